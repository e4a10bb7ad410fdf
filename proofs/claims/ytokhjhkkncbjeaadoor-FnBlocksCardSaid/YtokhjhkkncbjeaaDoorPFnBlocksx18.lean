-- Written by a program of this session (wip/tools/pp.py over the kit's print).
import Derived.Test.YtokhjhkkncbjeaaDoorPFnBlocksx0
import Derived.Test.YtokhjhkkncbjeaaDoorPFnBlocksx9
import Derived.Test.YtokhjhkkncbjeaaDoorPFnBlocksx17
namespace Go.Proofs.YtokhjhkkncbjeaaDoor.PFnBlocks
open Go.RowKit Go.Proofs.YtokhjhkkncbjeaaDoorW.PrintWords Go.Proofs.YtokhjhkkncbjeaaDoorW.PrintLast Go.Proofs.YtokhjhkkncbjeaaDoorW.PrintMore
attribute [local go_sem] max2_int min2_int max_two min_two max_three min_three max_four min_four
attribute [local go_sem high] str_gtr str_leq str_geq
set_option linter.unusedVariables false
set_option linter.unusedSimpArgs false

/-! ### impl_Proof_isFirst: function 58 -/
def impl_Proof_isFirst.f (a0_0 : Int) (a0_1 : Int) (l0_2 : List Int) (l0_3 : List Int) : Option (Bool) := if a0_0 = 0 then (if a0_1 = 0 then (if (l0_2.length : Int) = 0 then (some ((l0_3.length : Int) == 0)) else (some false)) else (some false)) else (some false)
set_option maxHeartbeats 8000000 in
set_option maxRecDepth 100000 in
theorem impl_Proof_isFirst.calls (a0_0 : Int) (a0_1 : Int) (A0_2 : Option Addr) (c0_2 : Nat) (l0_2 : List Int) (A0_3 : Option Addr) (c0_3 : Nat) (l0_3 : List Int) (r : Bool) (w : World) (hr0_2 : Kd.C (Kd.int .i64) w A0_2 l0_2.length l0_2) (hc0_2 : l0_2.length ≤ c0_2) (hr0_3 : Kd.C (Kd.int .i64) w A0_3 l0_3.length l0_3) (hc0_3 : l0_3.length ≤ c0_3) (h : impl_Proof_isFirst.f a0_0 a0_1 l0_2 l0_3 = some r) :
  Calls Tryd.prog 58 #[.agg #[.int .i64 a0_0, .int .i64 a0_1, .slice A0_2 l0_2.length c0_2, .slice A0_3 l0_3.length c0_3]] w fun e w' => e = .returned (.bool r) ∧ Below w.heap.size w w' := by
 have hu26 := Tryd.underlying26
 have HR0_2 := Aside0.mk hr0_2
 have HC0_2 := Aside0.mk hc0_2
 clear hr0_2 hc0_2
 have HR0_3 := Aside0.mk hr0_3
 have HC0_3 := Aside0.mk hc0_3
 clear hr0_3 hc0_3
 have HB := Aside0.mk (Below.refl w.heap.size w)
 have H : (if a0_0 = 0 then (if a0_1 = 0 then (if (l0_2.length : Int) = 0 then (some ((l0_3.length : Int) == 0)) else (some false)) else (some false)) else (some false)) = some r := h
 clear h
 by_cases c2 : a0_0 = 0
 ·rw [if_pos c2] at H
  have c2b0 : (a0_0 == 0) = true := beq_iff_eq.mpr c2
  have c2b1 : (a0_0 != 0) = false := bne_eq_false_iff_eq.mpr c2
  clear c2
  by_cases c3 : a0_1 = 0
  ·rw [if_pos c3] at H
   have c3b0 : (a0_1 == 0) = true := beq_iff_eq.mpr c3
   have c3b1 : (a0_1 != 0) = false := bne_eq_false_iff_eq.mpr c3
   clear c3
   by_cases c4 : (l0_2.length : Int) = 0
   ·rw [if_pos c4] at H
    have c4b0 : ((l0_2.length : Int) == 0) = true := beq_iff_eq.mpr c4
    have c4b1 : ((l0_2.length : Int) != 0) = false := bne_eq_false_iff_eq.mpr c4
    clear c4
    obtain rfl := Option.some.inj H
    go_enter Tryd.func58, Tryd.ntmps58
    go_wp2_with (first | ((with_reducible refine gate_dst (N := 1) rfl ?_); (try (refine gate_guard (by rfl) ?_; dsimp only)); refine box_event ?hg (N := 1) ?hd (cs := #[.int .i64 a0_0, .int .i64 a0_1, .slice A0_2 l0_2.length c0_2, .slice A0_3 l0_3.length c0_3]) (t := 26) ?hr ?_; (case hd => rfl); (case hg => rfl); (case hr => first | (go_simp; done) | (go_simp; rfl)); intro gb613 hg w5 hbox hb; have BK613 := Aside0.mk (hbox); have GW613 := Aside0.mk ((by rw [hg]; exact (below_size Z0) : w.heap.size ≤ gb613)); have GE613 := Aside0.mk ((by rw [hg]; exact (below_size Z0) : w.heap.size ≤ gb613)); replace HB := Aside0.mk (below_step Z0 hb); clear hb hbox hg; have hcz6_0 : w5.cell? ⟨gb613, 0, none⟩ = some (.int .i64 a0_0) := (blk_cell BK613.out 0).trans rfl; have hcz6_1 : w5.cell? ⟨gb613, 1, none⟩ = some (.int .i64 a0_1) := (blk_cell BK613.out 1).trans rfl; have hcz6_2 : w5.cell? ⟨gb613, 2, none⟩ = some (.slice A0_2 l0_2.length c0_2) := (blk_cell BK613.out 2).trans rfl; have hcz6_3 : w5.cell? ⟨gb613, 3, none⟩ = some (.slice A0_3 l0_3.length c0_3) := (blk_cell BK613.out 3).trans rfl; have hfz6_0 := blk_frozen BK613.out 0; have hfz6_1 := blk_frozen BK613.out 1; have hfz6_2 := blk_frozen BK613.out 2; have hfz6_3 := blk_frozen BK613.out 3))
    go_ret
    exact ⟨J0, J31⟩
   ·rw [if_neg c4] at H
    have c4b0 : ((l0_2.length : Int) == 0) = false := beq_eq_false_iff_ne.mpr c4
    have c4b1 : ((l0_2.length : Int) != 0) = true := bne_iff_ne.mpr c4
    have c4b2 : ¬ (l0_2 = []) := fun h_ => c4 (by rw [h_]; rfl)
    obtain rfl := Option.some.inj H
    go_enter Tryd.func58, Tryd.ntmps58
    go_wp2_with (first | ((with_reducible refine gate_dst (N := 1) rfl ?_); (try (refine gate_guard (by rfl) ?_; dsimp only)); refine box_event ?hg (N := 1) ?hd (cs := #[.int .i64 a0_0, .int .i64 a0_1, .slice A0_2 l0_2.length c0_2, .slice A0_3 l0_3.length c0_3]) (t := 26) ?hr ?_; (case hd => rfl); (case hg => rfl); (case hr => first | (go_simp; done) | (go_simp; rfl)); intro gb613 hg w7 hbox hb; have BK613 := Aside0.mk (hbox); have GW613 := Aside0.mk ((by rw [hg]; exact (below_size Z0) : w.heap.size ≤ gb613)); have GE613 := Aside0.mk ((by rw [hg]; exact (below_size Z0) : w.heap.size ≤ gb613)); replace HB := Aside0.mk (below_step Z0 hb); clear hb hbox hg; have hcz8_0 : w7.cell? ⟨gb613, 0, none⟩ = some (.int .i64 a0_0) := (blk_cell BK613.out 0).trans rfl; have hcz8_1 : w7.cell? ⟨gb613, 1, none⟩ = some (.int .i64 a0_1) := (blk_cell BK613.out 1).trans rfl; have hcz8_2 : w7.cell? ⟨gb613, 2, none⟩ = some (.slice A0_2 l0_2.length c0_2) := (blk_cell BK613.out 2).trans rfl; have hcz8_3 : w7.cell? ⟨gb613, 3, none⟩ = some (.slice A0_3 l0_3.length c0_3) := (blk_cell BK613.out 3).trans rfl; have hfz8_0 := blk_frozen BK613.out 0; have hfz8_1 := blk_frozen BK613.out 1; have hfz8_2 := blk_frozen BK613.out 2; have hfz8_3 := blk_frozen BK613.out 3))
    go_ret
    exact ⟨J0, J31⟩
  ·rw [if_neg c3] at H
   have c3b0 : (a0_1 == 0) = false := beq_eq_false_iff_ne.mpr c3
   have c3b1 : (a0_1 != 0) = true := bne_iff_ne.mpr c3
   obtain rfl := Option.some.inj H
   go_enter Tryd.func58, Tryd.ntmps58
   go_wp2_with (first | ((with_reducible refine gate_dst (N := 1) rfl ?_); (try (refine gate_guard (by rfl) ?_; dsimp only)); refine box_event ?hg (N := 1) ?hd (cs := #[.int .i64 a0_0, .int .i64 a0_1, .slice A0_2 l0_2.length c0_2, .slice A0_3 l0_3.length c0_3]) (t := 26) ?hr ?_; (case hd => rfl); (case hg => rfl); (case hr => first | (go_simp; done) | (go_simp; rfl)); intro gb613 hg w9 hbox hb; have BK613 := Aside0.mk (hbox); have GW613 := Aside0.mk ((by rw [hg]; exact (below_size Z0) : w.heap.size ≤ gb613)); have GE613 := Aside0.mk ((by rw [hg]; exact (below_size Z0) : w.heap.size ≤ gb613)); replace HB := Aside0.mk (below_step Z0 hb); clear hb hbox hg; have hcz10_0 : w9.cell? ⟨gb613, 0, none⟩ = some (.int .i64 a0_0) := (blk_cell BK613.out 0).trans rfl; have hcz10_1 : w9.cell? ⟨gb613, 1, none⟩ = some (.int .i64 a0_1) := (blk_cell BK613.out 1).trans rfl; have hcz10_2 : w9.cell? ⟨gb613, 2, none⟩ = some (.slice A0_2 l0_2.length c0_2) := (blk_cell BK613.out 2).trans rfl; have hcz10_3 : w9.cell? ⟨gb613, 3, none⟩ = some (.slice A0_3 l0_3.length c0_3) := (blk_cell BK613.out 3).trans rfl; have hfz10_0 := blk_frozen BK613.out 0; have hfz10_1 := blk_frozen BK613.out 1; have hfz10_2 := blk_frozen BK613.out 2; have hfz10_3 := blk_frozen BK613.out 3))
   go_ret
   exact ⟨J0, J31⟩
 ·rw [if_neg c2] at H
  have c2b0 : (a0_0 == 0) = false := beq_eq_false_iff_ne.mpr c2
  have c2b1 : (a0_0 != 0) = true := bne_iff_ne.mpr c2
  obtain rfl := Option.some.inj H
  go_enter Tryd.func58, Tryd.ntmps58
  go_wp2_with (first | ((with_reducible refine gate_dst (N := 1) rfl ?_); (try (refine gate_guard (by rfl) ?_; dsimp only)); refine box_event ?hg (N := 1) ?hd (cs := #[.int .i64 a0_0, .int .i64 a0_1, .slice A0_2 l0_2.length c0_2, .slice A0_3 l0_3.length c0_3]) (t := 26) ?hr ?_; (case hd => rfl); (case hg => rfl); (case hr => first | (go_simp; done) | (go_simp; rfl)); intro gb613 hg w11 hbox hb; have BK613 := Aside0.mk (hbox); have GW613 := Aside0.mk ((by rw [hg]; exact (below_size Z0) : w.heap.size ≤ gb613)); have GE613 := Aside0.mk ((by rw [hg]; exact (below_size Z0) : w.heap.size ≤ gb613)); replace HB := Aside0.mk (below_step Z0 hb); clear hb hbox hg; have hcz12_0 : w11.cell? ⟨gb613, 0, none⟩ = some (.int .i64 a0_0) := (blk_cell BK613.out 0).trans rfl; have hcz12_1 : w11.cell? ⟨gb613, 1, none⟩ = some (.int .i64 a0_1) := (blk_cell BK613.out 1).trans rfl; have hcz12_2 : w11.cell? ⟨gb613, 2, none⟩ = some (.slice A0_2 l0_2.length c0_2) := (blk_cell BK613.out 2).trans rfl; have hcz12_3 : w11.cell? ⟨gb613, 3, none⟩ = some (.slice A0_3 l0_3.length c0_3) := (blk_cell BK613.out 3).trans rfl; have hfz12_0 := blk_frozen BK613.out 0; have hfz12_1 := blk_frozen BK613.out 1; have hfz12_2 := blk_frozen BK613.out 2; have hfz12_3 := blk_frozen BK613.out 3))
  go_ret
  exact ⟨J0, J31⟩

/-! ### impl_isView: function 38 -/
def impl_isView.f (a0 : Int) : Option (Bool) := (impl_within.f a0 1 100000).bind fun t614 => (some t614)
set_option maxHeartbeats 8000000 in
set_option maxRecDepth 100000 in
theorem impl_isView.calls (a0 : Int) (r : Bool) (w : World) (h : impl_isView.f a0 = some r) :
  Calls Tryd.prog 38 #[.int .i64 a0] w fun e w' => e = .returned (.bool r) ∧ Drawn0 w w' := by
 have H : ((impl_within.f a0 1 100000).bind fun t614 => (some t614)) = some r := h
 clear h
 replace H := Option.bind_eq_some_iff.mp H
 obtain ⟨t614, A20, H⟩ := H
 replace H : (some t614) = some r := H
 have A2 := Aside0.mk A20
 clear A20
 obtain rfl := Option.some.inj H
 go_enter Tryd.func38, Tryd.ntmps38
 go_wp2_with (first | ((with_reducible refine gate_callee (f := 20) rfl ?_); refine goesL_ (some 4) rfl rfl Tryd.func20 (by kernel_rfl) rfl #[.int .i64 a0, .int .i64 1, .int .i64 100000] rfl Z2 ?_; (with_reducible refine (impl_within.calls a0 1 100000 t614 _ A2.out).mono ?_); rintro e w' ⟨rfl, ⟨nd, rfl⟩⟩; refine ⟨_, rfl, ?_⟩))
 go_ret
 exact ⟨J6, J2⟩

/-! ### impl_isName: function 71 -/
def impl_isName.f (a0 : Int) : Option (Bool) := (impl_within.f a0 0 2147483646).bind fun t615 => (some t615)
set_option maxHeartbeats 8000000 in
set_option maxRecDepth 100000 in
theorem impl_isName.calls (a0 : Int) (r : Bool) (w : World) (h : impl_isName.f a0 = some r) :
  Calls Tryd.prog 71 #[.int .i64 a0] w fun e w' => e = .returned (.bool r) ∧ Drawn0 w w' := by
 have H : ((impl_within.f a0 0 2147483646).bind fun t615 => (some t615)) = some r := h
 clear h
 replace H := Option.bind_eq_some_iff.mp H
 obtain ⟨t615, A20, H⟩ := H
 replace H : (some t615) = some r := H
 have A2 := Aside0.mk A20
 clear A20
 obtain rfl := Option.some.inj H
 go_enter Tryd.func71, Tryd.ntmps71
 go_wp2_with (first | ((with_reducible refine gate_callee (f := 20) rfl ?_); refine goesL_ (some 4) rfl rfl Tryd.func20 (by kernel_rfl) rfl #[.int .i64 a0, .int .i64 0, .int .i64 2147483646] rfl Z2 ?_; (with_reducible refine (impl_within.calls a0 0 2147483646 t615 _ A2.out).mono ?_); rintro e w' ⟨rfl, ⟨nd, rfl⟩⟩; refine ⟨_, rfl, ?_⟩))
 go_ret
 exact ⟨J6, J2⟩

/-! ### strconv_FormatInt: function 79 -/
def strconv_FormatInt.f (a0 : Int) (a1 : Int) : Option ByteArray := if -9223372036854775808 ≤ a0 ∧ a0 ≤ 9223372036854775807 ∧ a1 = 10 then some ⟨(Lib.itoa a0).toArray⟩ else none
set_option maxHeartbeats 8000000 in
set_option maxRecDepth 100000 in
theorem strconv_FormatInt.calls (a0 : Int) (a1 : Int) (r : ByteArray) (w : World) (h : strconv_FormatInt.f a0 a1 = some r) (hT : TabOk w) :
  Calls Tryd.prog 79 #[.int .i64 a0, .int .i64 a1] w fun e w' => e = .returned (.string r) ∧ Below w.heap.size w w' := by
 unfold strconv_FormatInt.f at h
 by_cases hc : -9223372036854775808 ≤ a0 ∧ a0 ≤ 9223372036854775807 ∧ a1 = 10
 ·rw [if_pos hc] at h
  obtain ⟨h0, h1, rfl⟩ := hc
  obtain rfl := Option.some.inj h
  have H0 := Aside0.mk h0
  have H1 := Aside0.mk h1
  have HT := Aside0.mk hT
  clear h0 h1 hT h
  go_enter Tryd.func79, Tryd.ntmps79
  go_wp2_with fail
  refine (Tryd.internal_strconv_FormatInt_10 a0 H0.out H1.out _ (tabIs_of HT.out)).mono ?_
  rintro e w' ⟨rfl, k, os, rfl⟩
  go_wp2
  go_ret
  exact ⟨rfl, below_grow_ _ _ _⟩
 ·rw [if_neg hc] at h
  cases h

/-! ### impl_decimal: function 77 -/
def impl_decimal.f (a0 : Int) : Option (ByteArray) := (strconv_FormatInt.f a0 10).bind fun t616 => (some t616)
set_option maxHeartbeats 8000000 in
set_option maxRecDepth 100000 in
theorem impl_decimal.calls (a0 : Int) (r : ByteArray) (w : World) (h : impl_decimal.f a0 = some r) (hT : TabOk w) :
  Calls Tryd.prog 77 #[.int .i64 a0] w fun e w' => e = .returned (.string r) ∧ Below w.heap.size w w' := by
 have HT := Aside0.mk hT
 clear hT
 have HB := Aside0.mk (Below.refl w.heap.size w)
 have H : ((strconv_FormatInt.f a0 10).bind fun t616 => (some t616)) = some r := h
 clear h
 replace H := Option.bind_eq_some_iff.mp H
 obtain ⟨t616, A20, H⟩ := H
 replace H : (some t616) = some r := H
 have A2 := Aside0.mk A20
 clear A20
 obtain rfl := Option.some.inj H
 go_enter Tryd.func77, Tryd.ntmps77
 go_wp2_with (first | ((with_reducible refine gate_callee (f := 79) rfl ?_); refine goesL_ (some 4) rfl rfl Tryd.func79 (by kernel_rfl) rfl #[.int .i64 a0, .int .i64 10] rfl Z2 ?_; (with_reducible refine (strconv_FormatInt.calls a0 10 t616 _ A2.out (tab_at HT.out Z8)).mono ?_); rintro e w3 ⟨rfl, hb⟩; refine ⟨_, rfl, ?_⟩; replace HB := Aside0.mk (below_step Z0 hb); (try clear hb); (try clear hb2); (try clear hk); (try clear hi)))
 go_ret
 exact ⟨J0, J1⟩

/-! ### impl_isServer: function 78 -/
def impl_isServer.f (a0 : Int) : Option (Bool) := (impl_within.f a0 0 6).bind fun t617 => (some t617)
set_option maxHeartbeats 8000000 in
set_option maxRecDepth 100000 in
theorem impl_isServer.calls (a0 : Int) (r : Bool) (w : World) (h : impl_isServer.f a0 = some r) :
  Calls Tryd.prog 78 #[.int .i64 a0] w fun e w' => e = .returned (.bool r) ∧ Drawn0 w w' := by
 have H : ((impl_within.f a0 0 6).bind fun t617 => (some t617)) = some r := h
 clear h
 replace H := Option.bind_eq_some_iff.mp H
 obtain ⟨t617, A20, H⟩ := H
 replace H : (some t617) = some r := H
 have A2 := Aside0.mk A20
 clear A20
 obtain rfl := Option.some.inj H
 go_enter Tryd.func78, Tryd.ntmps78
 go_wp2_with (first | ((with_reducible refine gate_callee (f := 20) rfl ?_); refine goesL_ (some 4) rfl rfl Tryd.func20 (by kernel_rfl) rfl #[.int .i64 a0, .int .i64 0, .int .i64 6] rfl Z2 ?_; (with_reducible refine (impl_within.calls a0 0 6 t617 _ A2.out).mono ?_); rintro e w' ⟨rfl, ⟨nd, rfl⟩⟩; refine ⟨_, rfl, ?_⟩))
 go_ret
 exact ⟨J6, J2⟩

/-! ### impl_Tag: function 76 -/
def impl_Tag.f (k : Nat) (a0 : Int) (a1 : ByteArray) : Option (Int) := (impl_isServer.f a0).bind fun t618 => (if t618 = true then ((impl_decimal.f a0).bind fun t619 => (if 6 + t619.size ≤ 9223372036854775807 then (if ((⟨#[115, 101, 99, 114, 101, 116]⟩ : ByteArray) ++ t619).size + 1 ≤ 9223372036854775807 then (if (((⟨#[115, 101, 99, 114, 101, 116]⟩ : ByteArray) ++ t619) ++ (⟨#[47]⟩ : ByteArray)).size + a1.size ≤ 9223372036854775807 then ((impl_Digest.f k ((((⟨#[115, 101, 99, 114, 101, 116]⟩ : ByteArray) ++ t619) ++ (⟨#[47]⟩ : ByteArray)) ++ a1)).bind fun t620 => (some t620)) else (none)) else (none)) else (none))) else (some (-1)))
theorem impl_Tag.mono : ∀ a0 a1 k, LeO (impl_Tag.f k a0 a1) (impl_Tag.f (k + 1) a0 a1) := by
 intro a0 a1 k
 unfold impl_Tag.f
 repeat' with_reducible first
   | exact impl_Digest.mono _ _
   | exact LeO.refl _
   | exact LeO.none _
   | refine LeO.ite ?_ ?_
   | refine LeO.bind ?_ (fun _ => ?_)
set_option maxHeartbeats 8000000 in
set_option maxRecDepth 100000 in
theorem impl_Tag.calls (k : Nat) (a0 : Int) (a1 : ByteArray) (r : Int) (w : World) (h : impl_Tag.f k a0 a1 = some r) (hT : TabOk w) :
  Calls Tryd.prog 76 #[.int .i64 a0, .string a1] w fun e w' => e = .returned (.int .i64 r) ∧ Below w.heap.size w w' := by
 have HT := Aside0.mk hT
 clear hT
 have HB := Aside0.mk (Below.refl w.heap.size w)
 have H : ((impl_isServer.f a0).bind fun t618 => (if t618 = true then ((impl_decimal.f a0).bind fun t619 => (if 6 + t619.size ≤ 9223372036854775807 then (if ((⟨#[115, 101, 99, 114, 101, 116]⟩ : ByteArray) ++ t619).size + 1 ≤ 9223372036854775807 then (if (((⟨#[115, 101, 99, 114, 101, 116]⟩ : ByteArray) ++ t619) ++ (⟨#[47]⟩ : ByteArray)).size + a1.size ≤ 9223372036854775807 then ((impl_Digest.f k ((((⟨#[115, 101, 99, 114, 101, 116]⟩ : ByteArray) ++ t619) ++ (⟨#[47]⟩ : ByteArray)) ++ a1)).bind fun t620 => (some t620)) else (none)) else (none)) else (none))) else (some (-1)))) = some r := h
 clear h
 replace H := Option.bind_eq_some_iff.mp H
 obtain ⟨t618, A30, H⟩ := H
 try dsimp only at H
 have A3 := Aside0.mk A30
 clear A30
 have HC4 := Aside0.mk H
 clear H
 go_enter Tryd.func76, Tryd.ntmps76
 go_upto_if 7 with (first | ((with_reducible refine gate_callee (f := 78) rfl ?_); refine goesL_ (some 6) rfl rfl Tryd.func78 (by kernel_rfl) rfl #[.int .i64 a0] rfl Z2 ?_; (with_reducible refine (impl_isServer.calls a0 t618 _ A3.out).mono ?_); rintro e w' ⟨rfl, ⟨nd, rfl⟩⟩; refine ⟨_, rfl, ?_⟩))
 (try simp only [Act.put, List.setIfInBounds_toArray, List.set_cons_zero, List.set_cons_succ])
 have H := HC4.out
 clear HC4
 by_cases c5 : t618 = true
 ·subst c5
  have H1 : ((impl_decimal.f a0).bind fun t619 => (if 6 + t619.size ≤ 9223372036854775807 then (if ((⟨#[115, 101, 99, 114, 101, 116]⟩ : ByteArray) ++ t619).size + 1 ≤ 9223372036854775807 then (if (((⟨#[115, 101, 99, 114, 101, 116]⟩ : ByteArray) ++ t619) ++ (⟨#[47]⟩ : ByteArray)).size + a1.size ≤ 9223372036854775807 then ((impl_Digest.f k ((((⟨#[115, 101, 99, 114, 101, 116]⟩ : ByteArray) ++ t619) ++ (⟨#[47]⟩ : ByteArray)) ++ a1)).bind fun t620 => (some t620)) else (none)) else (none)) else (none))) = some r := by rw [if_pos rfl] at H; exact H
  clear H
  have H := H1
  clear H1
  replace H := Option.bind_eq_some_iff.mp H
  obtain ⟨t619, A60, H⟩ := H
  try dsimp only at H
  have A6 := Aside0.mk A60
  clear A60
  by_cases c7 : 6 + t619.size ≤ 9223372036854775807
  ·rw [if_pos c7] at H
   have c7b0 := eq_true c7
   have c7b1 : decide (6 + t619.size ≤ 9223372036854775807) = true := decide_eq_true c7
   try have c7b2 : (9223372036854775807 < 6 + t619.size) = False := eq_false (Nat.not_lt.2 c7)
   by_cases c8 : ((⟨#[115, 101, 99, 114, 101, 116]⟩ : ByteArray) ++ t619).size + 1 ≤ 9223372036854775807
   ·rw [if_pos c8] at H
    have c8b0 := eq_true c8
    have c8b1 : decide (((⟨#[115, 101, 99, 114, 101, 116]⟩ : ByteArray) ++ t619).size + 1 ≤ 9223372036854775807) = true := decide_eq_true c8
    try have c8b2 : (9223372036854775807 < ((⟨#[115, 101, 99, 114, 101, 116]⟩ : ByteArray) ++ t619).size + 1) = False := eq_false (Nat.not_lt.2 c8)
    try have c8b3 : (9223372036854775807 < 6 + t619.size + 1) = False := by have h_ := c8; simp only [ByteArray.size_append] at h_; exact eq_false (Nat.not_lt.2 h_)
    by_cases c9 : (((⟨#[115, 101, 99, 114, 101, 116]⟩ : ByteArray) ++ t619) ++ (⟨#[47]⟩ : ByteArray)).size + a1.size ≤ 9223372036854775807
    ·rw [if_pos c9] at H
     have c9b0 := eq_true c9
     have c9b1 : decide ((((⟨#[115, 101, 99, 114, 101, 116]⟩ : ByteArray) ++ t619) ++ (⟨#[47]⟩ : ByteArray)).size + a1.size ≤ 9223372036854775807) = true := decide_eq_true c9
     try have c9b2 : (9223372036854775807 < (((⟨#[115, 101, 99, 114, 101, 116]⟩ : ByteArray) ++ t619) ++ (⟨#[47]⟩ : ByteArray)).size + a1.size) = False := eq_false (Nat.not_lt.2 c9)
     try have c9b3 : (9223372036854775807 < 6 + t619.size + 1 + a1.size) = False := by have h_ := c9; simp only [ByteArray.size_append] at h_; exact eq_false (Nat.not_lt.2 h_)
     replace H := Option.bind_eq_some_iff.mp H
     obtain ⟨t620, A100, H⟩ := H
     replace H : (some t620) = some r := H
     have A10 := Aside0.mk A100
     clear A100
     obtain rfl := Option.some.inj H
     go_wp2_with (first | ((with_reducible refine gate_callee (f := 77) rfl ?_); refine goesL_ (some 9) rfl rfl Tryd.func77 (by kernel_rfl) rfl #[.int .i64 a0] rfl Z2 ?_; (with_reducible refine (impl_decimal.calls a0 t619 _ A6.out (tab_at HT.out Z8)).mono ?_); rintro e w11 ⟨rfl, hb⟩; refine ⟨_, rfl, ?_⟩; replace HB := Aside0.mk (below_step Z0 hb); (try clear hb); (try clear hb2); (try clear hk); (try clear hi)) | ((with_reducible refine gate_callee (f := 35) rfl ?_); refine goesL_ (some 14) rfl rfl Tryd.func35 (by kernel_rfl) rfl #[.string ((((⟨#[115, 101, 99, 114, 101, 116]⟩ : ByteArray) ++ t619) ++ (⟨#[47]⟩ : ByteArray)) ++ a1)] rfl Z2 ?_; (with_reducible refine (impl_Digest.calls k ((((⟨#[115, 101, 99, 114, 101, 116]⟩ : ByteArray) ++ t619) ++ (⟨#[47]⟩ : ByteArray)) ++ a1) t620 _ A10.out).mono ?_); rintro e w' ⟨rfl, ⟨nd, rfl⟩⟩; refine ⟨_, rfl, ?_⟩))
     go_ret
     exact ⟨J0, J1⟩
    ·rw [if_neg c9] at H
     exact absurd H (by simp)
   ·rw [if_neg c8] at H
    exact absurd H (by simp)
  ·rw [if_neg c7] at H
   exact absurd H (by simp)
 ·replace c5 := Bool.eq_false_iff.mpr c5
  subst c5
  have H1 : (some (-1)) = some r := by rw [if_neg (show ¬ (false = true) by decide)] at H; exact H
  clear H
  have H := H1
  clear H1
  obtain rfl := Option.some.inj H
  go_wp2
  go_ret
  exact ⟨J0, J1⟩

/-! ### impl_Signed: function 72 -/
def impl_Signed.f (k : Nat) (a0 : Int) (a1 : ByteArray) (a2 : Int) : Option (Bool) := if a2 = (-1) then (some false) else ((impl_Tag.f k a0 a1).bind fun t621 => (some (a2 == t621)))
theorem impl_Signed.mono : ∀ a0 a1 a2 k, LeO (impl_Signed.f k a0 a1 a2) (impl_Signed.f (k + 1) a0 a1 a2) := by
 intro a0 a1 a2 k
 unfold impl_Signed.f
 repeat' with_reducible first
   | exact impl_Tag.mono _ _ _
   | exact LeO.refl _
   | exact LeO.none _
   | refine LeO.ite ?_ ?_
   | refine LeO.bind ?_ (fun _ => ?_)
set_option maxHeartbeats 8000000 in
set_option maxRecDepth 100000 in
theorem impl_Signed.calls (k : Nat) (a0 : Int) (a1 : ByteArray) (a2 : Int) (r : Bool) (w : World) (h : impl_Signed.f k a0 a1 a2 = some r) (hT : TabOk w) :
  Calls Tryd.prog 72 #[.int .i64 a0, .string a1, .int .i64 a2] w fun e w' => e = .returned (.bool r) ∧ Below w.heap.size w w' := by
 have HT := Aside0.mk hT
 clear hT
 have HB := Aside0.mk (Below.refl w.heap.size w)
 have H : (if a2 = (-1) then (some false) else ((impl_Tag.f k a0 a1).bind fun t621 => (some (a2 == t621)))) = some r := h
 clear h
 by_cases c4 : a2 = (-1)
 ·rw [if_pos c4] at H
  have c4b0 : (a2 == (-1)) = true := beq_iff_eq.mpr c4
  have c4b1 : (a2 != (-1)) = false := bne_eq_false_iff_eq.mpr c4
  clear c4
  obtain rfl := Option.some.inj H
  go_enter Tryd.func72, Tryd.ntmps72
  go_wp2
  go_ret
  exact ⟨J0, J1⟩
 ·rw [if_neg c4] at H
  have c4b0 : (a2 == (-1)) = false := beq_eq_false_iff_ne.mpr c4
  have c4b1 : (a2 != (-1)) = true := bne_iff_ne.mpr c4
  replace H := Option.bind_eq_some_iff.mp H
  obtain ⟨t621, A50, H⟩ := H
  try dsimp only at H
  have A5 := Aside0.mk A50
  clear A50
  obtain rfl := Option.some.inj H
  go_enter Tryd.func72, Tryd.ntmps72
  go_wp2_with (first | (go_at_call 76; (with_reducible refine (impl_Tag.calls k a0 a1 t621 _ A5.out (tab_at HT.out Z8)).mono ?_); rintro e w6 ⟨rfl, hb⟩; replace HB := Aside0.mk (below_step Z0 hb); (try clear hb); (try clear hb2); (try clear hk); (try clear hi)))
  go_ret
  exact ⟨J0, J1⟩

/-! ### impl_ballot: function 73 -/
def impl_ballot.f (a0 : Int) (a1 : Int) : Option (ByteArray) := (impl_decimal.f a0).bind fun t622 => (if 5 + t622.size ≤ 9223372036854775807 then (if ((⟨#[118, 111, 116, 101, 32]⟩ : ByteArray) ++ t622).size + 1 ≤ 9223372036854775807 then ((impl_decimal.f a1).bind fun t623 => (if (((⟨#[118, 111, 116, 101, 32]⟩ : ByteArray) ++ t622) ++ (⟨#[32]⟩ : ByteArray)).size + t623.size ≤ 9223372036854775807 then (some ((((⟨#[118, 111, 116, 101, 32]⟩ : ByteArray) ++ t622) ++ (⟨#[32]⟩ : ByteArray)) ++ t623)) else (none))) else (none)) else (none))
set_option maxHeartbeats 8000000 in
set_option maxRecDepth 100000 in
theorem impl_ballot.calls (a0 : Int) (a1 : Int) (r : ByteArray) (w : World) (h : impl_ballot.f a0 a1 = some r) (hT : TabOk w) :
  Calls Tryd.prog 73 #[.int .i64 a0, .int .i64 a1] w fun e w' => e = .returned (.string r) ∧ Below w.heap.size w w' := by
 have HT := Aside0.mk hT
 clear hT
 have HB := Aside0.mk (Below.refl w.heap.size w)
 have H : ((impl_decimal.f a0).bind fun t622 => (if 5 + t622.size ≤ 9223372036854775807 then (if ((⟨#[118, 111, 116, 101, 32]⟩ : ByteArray) ++ t622).size + 1 ≤ 9223372036854775807 then ((impl_decimal.f a1).bind fun t623 => (if (((⟨#[118, 111, 116, 101, 32]⟩ : ByteArray) ++ t622) ++ (⟨#[32]⟩ : ByteArray)).size + t623.size ≤ 9223372036854775807 then (some ((((⟨#[118, 111, 116, 101, 32]⟩ : ByteArray) ++ t622) ++ (⟨#[32]⟩ : ByteArray)) ++ t623)) else (none))) else (none)) else (none))) = some r := h
 clear h
 replace H := Option.bind_eq_some_iff.mp H
 obtain ⟨t622, A30, H⟩ := H
 try dsimp only at H
 have A3 := Aside0.mk A30
 clear A30
 by_cases c4 : 5 + t622.size ≤ 9223372036854775807
 ·rw [if_pos c4] at H
  have c4b0 := eq_true c4
  have c4b1 : decide (5 + t622.size ≤ 9223372036854775807) = true := decide_eq_true c4
  try have c4b2 : (9223372036854775807 < 5 + t622.size) = False := eq_false (Nat.not_lt.2 c4)
  by_cases c5 : ((⟨#[118, 111, 116, 101, 32]⟩ : ByteArray) ++ t622).size + 1 ≤ 9223372036854775807
  ·rw [if_pos c5] at H
   have c5b0 := eq_true c5
   have c5b1 : decide (((⟨#[118, 111, 116, 101, 32]⟩ : ByteArray) ++ t622).size + 1 ≤ 9223372036854775807) = true := decide_eq_true c5
   try have c5b2 : (9223372036854775807 < ((⟨#[118, 111, 116, 101, 32]⟩ : ByteArray) ++ t622).size + 1) = False := eq_false (Nat.not_lt.2 c5)
   try have c5b3 : (9223372036854775807 < 5 + t622.size + 1) = False := by have h_ := c5; simp only [ByteArray.size_append] at h_; exact eq_false (Nat.not_lt.2 h_)
   replace H := Option.bind_eq_some_iff.mp H
   obtain ⟨t623, A60, H⟩ := H
   try dsimp only at H
   have A6 := Aside0.mk A60
   clear A60
   by_cases c7 : (((⟨#[118, 111, 116, 101, 32]⟩ : ByteArray) ++ t622) ++ (⟨#[32]⟩ : ByteArray)).size + t623.size ≤ 9223372036854775807
   ·rw [if_pos c7] at H
    have c7b0 := eq_true c7
    have c7b1 : decide ((((⟨#[118, 111, 116, 101, 32]⟩ : ByteArray) ++ t622) ++ (⟨#[32]⟩ : ByteArray)).size + t623.size ≤ 9223372036854775807) = true := decide_eq_true c7
    try have c7b2 : (9223372036854775807 < (((⟨#[118, 111, 116, 101, 32]⟩ : ByteArray) ++ t622) ++ (⟨#[32]⟩ : ByteArray)).size + t623.size) = False := eq_false (Nat.not_lt.2 c7)
    try have c7b3 : (9223372036854775807 < 5 + t622.size + 1 + t623.size) = False := by have h_ := c7; simp only [ByteArray.size_append] at h_; exact eq_false (Nat.not_lt.2 h_)
    obtain rfl := Option.some.inj H
    go_enter Tryd.func73, Tryd.ntmps73
    go_wp2_with (first | ((with_reducible refine gate_callee (f := 77) rfl ?_); refine goesL_ (some 6) rfl rfl Tryd.func77 (by kernel_rfl) rfl #[.int .i64 a0] rfl Z2 ?_; (with_reducible refine (impl_decimal.calls a0 t622 _ A3.out (tab_at HT.out Z8)).mono ?_); rintro e w8 ⟨rfl, hb⟩; refine ⟨_, rfl, ?_⟩; replace HB := Aside0.mk (below_step Z0 hb); (try clear hb); (try clear hb2); (try clear hk); (try clear hi)) | ((with_reducible refine gate_callee (f := 77) rfl ?_); refine goesL_ (some 10) rfl rfl Tryd.func77 (by kernel_rfl) rfl #[.int .i64 a1] rfl Z2 ?_; (with_reducible refine (impl_decimal.calls a1 t623 _ A6.out (tab_at HT.out Z8)).mono ?_); rintro e w9 ⟨rfl, hb⟩; refine ⟨_, rfl, ?_⟩; replace HB := Aside0.mk (below_step Z0 hb); (try clear hb); (try clear hb2); (try clear hk); (try clear hi)))
    go_ret
    exact ⟨J0, J1⟩
   ·rw [if_neg c7] at H
    exact absurd H (by simp)
  ·rw [if_neg c5] at H
   exact absurd H (by simp)
 ·rw [if_neg c4] at H
  exact absurd H (by simp)

end Go.Proofs.YtokhjhkkncbjeaaDoor.PFnBlocks
