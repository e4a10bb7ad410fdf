-- Written by a program of this session (wip/tools/pp.py over the kit's print).
import Derived.Test.YtokfpmkhfindmaaDoorPFnExactRecordsx0
import Derived.Test.YtokfpmkhfindmaaDoorPFnExactRecordsx2
namespace Go.Proofs.YtokfpmkhfindmaaDoor.PFnExactRecords
open Go.RowKit Go.Proofs.YtokfpmkhfindmaaDoorW.PrintWords Go.Proofs.YtokfpmkhfindmaaDoorW.PrintLast Go.Proofs.YtokfpmkhfindmaaDoorW.PrintMore
attribute [local go_sem] max2_int min2_int max_two min_two max_three min_three max_four min_four
attribute [local go_sem high] str_gtr str_leq str_geq
set_option linter.unusedVariables false
set_option linter.unusedSimpArgs false

/-! ### spec_Records: function 29 -/
def spec_Records.l0 : Nat → ByteArray → List ByteArray → Int → Option (List ByteArray × Int)
 | 0, _, _, _ => none
 | k + 1, x0, x4, x5 => if 0 ≤ x5 then (if x5 ≤ (x0.size : Int) then ((spec_l10Record.f k (x0.extract (x5 : Int).toNat x0.size)).bind fun bt130 => (if bt130.2 = 0 then (some (x4, x5)) else (if x4.length < 8796093022208 then (spec_Records.l0 k x0 (x4 ++ [bt130.1]) (wrap64 (x5 + bt130.2))) else (none)))) else (none)) else (none)
def spec_Records.f (k : Nat) (a0 : ByteArray) : Option (List ByteArray × Int) := spec_Records.l0 k a0 (([] : List ByteArray)) 0
theorem spec_Records.mono_l : ∀ k, (∀ y0 y1 y2, LeO (spec_Records.l0 k y0 y1 y2) (spec_Records.l0 (k + 1) y0 y1 y2))
 | 0 => fun _ _ _ r h => by simp [spec_Records.l0] at h
 | k + 1 => by
  have ih0 := spec_Records.mono_l k
  ·intro y0 y1 y2
   unfold spec_Records.l0
   repeat' first
   | (with_reducible exact ih0 _ _ _)
   | (with_reducible exact spec_l10Record.mono _ _)
   | (with_reducible exact LeO.refl _)
   | (with_reducible exact LeO.none _)
   | (with_reducible refine LeO.ite ?_ ?_)
   | (with_reducible refine LeO.bind ?_ (fun _ => ?_))
   | exact ih0 _ _ _
   | exact spec_l10Record.mono _ _
   | exact LeO.none _
   | refine LeO.ite ?_ ?_
   | refine LeO.bind ?_ (fun _ => ?_)
theorem spec_Records.mono : ∀ a0 k, LeO (spec_Records.f k a0) (spec_Records.f (k + 1) a0) := by
 intro a0 k
 have ih0 := spec_Records.mono_l k
 unfold spec_Records.f
 repeat' first
   | (with_reducible exact ih0 _ _ _)
   | (with_reducible exact spec_l10Record.mono _ _)
   | (with_reducible exact LeO.refl _)
   | (with_reducible exact LeO.none _)
   | (with_reducible refine LeO.ite ?_ ?_)
   | (with_reducible refine LeO.bind ?_ (fun _ => ?_))
   | exact ih0 _ _ _
   | exact spec_l10Record.mono _ _
   | exact LeO.none _
   | refine LeO.ite ?_ ?_
   | refine LeO.bind ?_ (fun _ => ?_)
set_option maxHeartbeats 8000000 in
set_option maxRecDepth 100000 in
theorem spec_Records.calls (k : Nat) (a0 : ByteArray) (r1 : List ByteArray) (r2 : Int) (w : World) (h : spec_Records.f k a0 = some (r1, r2)) :
  Calls Tryd.prog 29 #[.string a0] w fun e w' => ∃ v0_ : Value, e = .returned (.tuple #[v0_, .int .i64 r2]) ∧ Kd.R Kd.string 9 w' w.heap.size (fun _ => True) v0_ r1 ∧ Below w.heap.size w w' := by
 have HB := Aside0.mk (Below.refl w.heap.size w)
 have H : (spec_Records.l0 k a0 (([] : List ByteArray)) 0) = some (r1, r2) := h
 clear h
 obtain ⟨y127, hy127⟩ : ∃ y_ : List ByteArray, y_ = (([] : List ByteArray)) := ⟨_, rfl⟩
 replace H : (spec_Records.l0 k a0 y127 0) = some (r1, r2) := by first | (rw [hy127]; with_reducible exact H) | (have H2_ := (Option.bind_some _ _).symm.trans H; rw [hy127]; with_reducible exact H2_) | (have H2_ := (Option.bind_some _ _).symm.trans H; with_reducible exact H2_) | with_reducible exact H | (rw [hy127]; exact H) | exact H
 have Ny127 := Aside0.mk hy127
 clear hy127
 have H' := Aside0.mk H
 clear H
 go_enter Tryd.func29, Tryd.ntmps29
 go_wp2_with (first | ((with_reducible refine gate_dst (N := 8) rfl ?_); refine Kd.R_lit Kd.string _ 9 ?hg (N := 8) ?hd (xs := ([] : List ByteArray)) (inner := []) (ok := fun _ => True) (okp := fun _ => True) ?hr ?hp (fun _ hk => hk) trivial (Below.refl _ _) (Nat.le_refl _) (by simp) ?_; (case hd => rfl); (case hg => rfl); (case hr => first | (go_simp; done) | (go_simp; rfl)); (case hp => exact (Reps.none _ _)); intro v128 w2 ho3 hb hg_ hnew_; clear hg_ hnew_; (first | rw [← Ny127.out] at ho3 | (simp only [Int.reduceToNat] at ho3; rw [← Ny127.out] at ho3)); have n0_ := Aside0.mk (Kd.R_lower ho3 (below_size (by repeat (first | (with_reducible first | exact HB.out | apply below_alloc | apply pw_below_drewN | apply below_drew1) | exact HB.out)))); have n1_ := Aside0.mk (below_step (by repeat (first | (with_reducible first | exact HB.out | apply below_alloc | apply pw_below_drewN | apply below_drew1) | exact HB.out)) hb); clear HB; have HO129 := n0_; have HB := n1_; clear n0_ n1_; clear hb ho3))
 go_loopg [4, 5] k (fun kq v4 v5 w' => ∃ (x4_1 : List ByteArray) (x5_1 : Int), v5 = .int .i64 x5_1 ∧ Aside0 (spec_Records.l0 kq a0 x4_1 x5_1 = some (r1, r2)) ∧ Aside0 (kq ≤ k) ∧ Aside0 (Kd.R Kd.string 9 w' w.heap.size (fun _ => True) v4 x4_1) ∧ Aside0 (Below w.heap.size w w'))
 case atStart => exact ⟨(y127), (0), (by first | rfl | (simp; done) | (simp [*]; done)), H', ⟨Nat.le_refl _⟩, ⟨by (with_reducible repeat (first | apply Kd.R_alloc | apply Kd.R_drewN | apply Kd.R_drew)); exact HO129.out⟩, ⟨by repeat (first | (with_reducible first | exact HB.out | apply below_alloc | apply pw_below_drewN | apply below_drew1) | exact HB.out)⟩⟩
 case round =>
  clear H'
  try clear c2
  try clear p2
  obtain ⟨x4_1, x5_1, rfl, HA, HK1, HO_4, HB⟩ := hrel
  cases gk with
  | zero => exact absurd HA.out (by simp [spec_Records.l0])
  | succ k1 =>
   have H := HA.out
   clear HA
   simp only [spec_Records.l0] at H
   by_cases c4 : 0 ≤ x5_1
   ·rw [if_pos c4] at H
    have c4b0 := eq_true c4
    have c4b1 : decide (0 ≤ x5_1) = true := decide_eq_true c4
    clear c4
    by_cases c5 : x5_1 ≤ (a0.size : Int)
    ·rw [if_pos c5] at H
     have c5b0 := eq_true c5
     have c5b1 : decide (x5_1 ≤ (a0.size : Int)) = true := decide_eq_true c5
     clear c5
     replace H := Option.bind_eq_some_iff.mp H
     obtain ⟨⟨t130, t131⟩, A60, H⟩ := H
     replace H : (if t131 = 0 then (some (x4_1, x5_1)) else (if x4_1.length < 8796093022208 then (spec_Records.l0 k1 a0 (x4_1 ++ [t130]) (wrap64 (x5_1 + t131))) else (none))) = some (r1, r2) := H
     have A6 := Aside0.mk A60
     clear A60
     have HC7 := Aside0.mk H
     clear H
     go_upto_if 17 with (first | ((with_reducible refine gate_callee (f := 66) rfl ?_); refine goesL_ (some 13) rfl rfl Tryd.func66 (by kernel_rfl) rfl #[.string (a0.extract (x5_1 : Int).toNat a0.size)] rfl (by (try simp only [List.map_toArray, List.map_cons, List.map_nil]); first | done | rfl | (simp only [List.length_drop, List.length_take]; rfl)) ?_; (with_reducible refine (spec_l10Record.calls k1 (a0.extract (x5_1 : Int).toNat a0.size) t130 t131 _ A6.out).mono ?_); rintro e w8 ⟨rfl, hb⟩; refine ⟨_, rfl, ?_⟩; have n0_ := Aside0.mk (Kd.R_below (by (with_reducible repeat (first | apply Kd.R_alloc | apply Kd.R_drewN | apply Kd.R_drew)); exact HO_4.out) hb); have n1_ := Aside0.mk (below_step (by repeat (first | (with_reducible first | exact HB.out | apply below_alloc | apply pw_below_drewN | apply below_drew1) | exact HB.out)) hb); clear HO_4; clear HB; have HO_4 := n0_; have HB := n1_; clear n0_ n1_; (try clear hb); (try clear hb2); (try clear hk); (try clear hi)))
     (try simp only [Act.put, List.setIfInBounds_toArray, List.set_cons_zero, List.set_cons_succ])
     have H := HC7.out
     clear HC7
     by_cases c9 : t131 = 0
     ·rw [if_pos c9] at H
      have c9b0 : (t131 == 0) = true := beq_iff_eq.mpr c9
      have c9b1 : (t131 != 0) = false := bne_eq_false_iff_eq.mpr c9
      clear c9
      (first | rw [c9b0] | (simp only [i64_w, i32_w]; rw [c9b0]) | skip)
      try rw [c9b1]
      simp only [Option.some.injEq, Prod.mk.injEq] at H
      obtain ⟨rfl, rfl⟩ := H
      go_wp2
      go_ret2
      exact ⟨_, by first | rfl | (simp [errW_none, errW_some] <;> rfl) | (simp [*, errW_none, errW_some] <;> rfl), by (with_reducible repeat (first | apply Kd.R_alloc | apply Kd.R_drewN | apply Kd.R_drew)); exact HO_4.out, by repeat (first | (with_reducible first | exact HB.out | apply below_alloc | apply pw_below_drewN | apply below_drew1) | exact HB.out)⟩
     ·rw [if_neg c9] at H
      have c9b0 : (t131 == 0) = false := beq_eq_false_iff_ne.mpr c9
      have c9b1 : (t131 != 0) = true := bne_iff_ne.mpr c9
      (first | rw [c9b0] | (simp only [i64_w, i32_w]; rw [c9b0]) | skip)
      try rw [c9b1]
      by_cases c10 : x4_1.length < 8796093022208
      ·rw [if_pos c10] at H
       have LMc10 := Aside0.mk c10
       clear c10
       obtain ⟨y132, hy132⟩ : ∃ y_ : List ByteArray, y_ = (x4_1 ++ [t130]) := ⟨_, rfl⟩
       replace H : (spec_Records.l0 k1 a0 y132 (wrap64 (x5_1 + t131))) = some (r1, r2) := by first | (rw [hy132]; with_reducible exact H) | (have H2_ := (Option.bind_some _ _).symm.trans H; rw [hy132]; with_reducible exact H2_) | (have H2_ := (Option.bind_some _ _).symm.trans H; with_reducible exact H2_) | with_reducible exact H | (rw [hy132]; exact H) | exact H
       have Ny132 := Aside0.mk hy132
       clear hy132
       have H' := Aside0.mk H
       clear H
       go_wp2_with (first | ((with_reducible refine gate_builtin (b := .append) (xs := #[.tmp 20, .tmp 22]) rfl ?_); at_builtin; refine Kd.R_append Kd.string (w0 := w) w.heap.size rfl (.tmp 20) (.tmp 22) 52 9 (.string ⟨#[]⟩) 16 rfl Tryd.underlying52 info9 rfl (by decide) (by omega) u4 x4_1 t130 [.string t130] (fun _ => True) (fun _ => False) rfl rfl ?aP (fun _ hk => hk.elim) ?aF ?aO ?aB ?aS ?aL ?_; (case aP => exact rfl); (case aB => exact (by repeat (first | (with_reducible first | exact HB.out | apply below_alloc | apply pw_below_drewN | apply below_drew1) | exact HB.out))); (case aF => exact (fun _ _ => trivial)); (case aO => exact (by (with_reducible repeat (first | apply Kd.R_alloc | apply Kd.R_drewN | apply Kd.R_drew)); exact HO_4.out)); (case aS => exact (below_size (by repeat (first | (with_reducible first | exact HB.out | apply below_alloc | apply pw_below_drewN | apply below_drew1) | exact HB.out)))); (case aL => have := LMc10.out; omega); intro v133 w11 ho hb hg hat; rw [← Ny132.out] at ho; have n0_ := Aside0.mk (hb); have n1_ := Aside0.mk (ho); clear HB; clear HO_4; have HB := n0_; have HO134 := n1_; clear n0_ n1_; clear ho hb hg hat))
       go_roundg k1
       case measure => have := HK1.out; omega
       case rel => exact ⟨(y132), (wrap64 (x5_1 + t131)), (by first | rfl | (simp; done) | (simp [*]; done)), H', ⟨by have := HK1.out; omega⟩, ⟨by (with_reducible repeat (first | apply Kd.R_alloc | apply Kd.R_drewN | apply Kd.R_drew)); exact HO134.out⟩, ⟨by repeat (first | (with_reducible first | exact HB.out | apply below_alloc | apply pw_below_drewN | apply below_drew1) | exact HB.out)⟩⟩
      ·rw [if_neg c10] at H
       exact absurd H (by simp)
    ·rw [if_neg c5] at H
     exact absurd H (by simp)
   ·rw [if_neg c4] at H
    exact absurd H (by simp)

/-! ### impl_within: function 63 -/
def impl_within.f (a0 : Int) (a1 : Int) (a2 : Int) : Option (Bool) := if a0 ≥ a1 then (some (decide (a0 ≤ a2))) else (some false)
set_option maxHeartbeats 8000000 in
set_option maxRecDepth 100000 in
theorem impl_within.calls (a0 : Int) (a1 : Int) (a2 : Int) (r : Bool) (w : World) (h : impl_within.f a0 a1 a2 = some r) :
  Calls Tryd.prog 63 #[.int .i64 a0, .int .i64 a1, .int .i64 a2] w fun e w' => e = .returned (.bool r) ∧ Drawn0 w w' := by
 have H : (if a0 ≥ a1 then (some (decide (a0 ≤ a2))) else (some false)) = some r := h
 clear h
 by_cases c4 : a0 ≥ a1
 ·rw [if_pos c4] at H
  have c4b0 : decide (a1 ≤ a0) = true := decide_eq_true c4
  clear c4
  obtain rfl := Option.some.inj H
  go_enter Tryd.func63, Tryd.ntmps63
  go_wp2
  go_ret
  exact ⟨by first | rfl | (simp; done) | (simp [*]; done), by repeat (first | exact Drawn0.refl _ | apply Drawn0.step)⟩
 ·rw [if_neg c4] at H
  have c4b0 : decide (a1 ≤ a0) = false := decide_eq_false c4
  clear c4
  obtain rfl := Option.some.inj H
  go_enter Tryd.func63, Tryd.ntmps63
  go_wp2
  go_ret
  exact ⟨by first | rfl | (simp; done) | (simp [*]; done), by repeat (first | exact Drawn0.refl _ | apply Drawn0.step)⟩

/-! ### impl_Digest: function 78 -/
def impl_Digest.l0 : Nat → ByteArray → Int → Int → Int → Option (Int)
 | 0, _, _, _, _ => none
 | k + 1, x0, x3, x6, x7 => if x7 < x6 then (if 0 ≤ x7 then (if x7 < (x0.size : Int) then (impl_Digest.l0 k x0 (Int.tmod (wrap64 ((wrap64 ((wrap64 (x3 * 1000003)) + (wrap64 (bt x0 x7)))) + 1)) 2147483647) x6 (wrap64 (x7 + 1))) else (none)) else (none)) else (some x3)
def impl_Digest.f (k : Nat) (a0 : ByteArray) : Option (Int) := impl_Digest.l0 k a0 1 (a0.size : Int) 0
theorem impl_Digest.mono_l : ∀ k, (∀ y0 y1 y2 y3, LeO (impl_Digest.l0 k y0 y1 y2 y3) (impl_Digest.l0 (k + 1) y0 y1 y2 y3))
 | 0 => fun _ _ _ _ r h => by simp [impl_Digest.l0] at h
 | k + 1 => by
  have ih0 := impl_Digest.mono_l k
  ·intro y0 y1 y2 y3
   unfold impl_Digest.l0
   repeat' first
   | (with_reducible exact ih0 _ _ _ _)
   | (with_reducible exact LeO.refl _)
   | (with_reducible exact LeO.none _)
   | (with_reducible refine LeO.ite ?_ ?_)
   | (with_reducible refine LeO.bind ?_ (fun _ => ?_))
   | exact ih0 _ _ _ _
   | exact LeO.none _
   | refine LeO.ite ?_ ?_
   | refine LeO.bind ?_ (fun _ => ?_)
theorem impl_Digest.mono : ∀ a0 k, LeO (impl_Digest.f k a0) (impl_Digest.f (k + 1) a0) := by
 intro a0 k
 have ih0 := impl_Digest.mono_l k
 unfold impl_Digest.f
 repeat' first
   | (with_reducible exact ih0 _ _ _ _)
   | (with_reducible exact LeO.refl _)
   | (with_reducible exact LeO.none _)
   | (with_reducible refine LeO.ite ?_ ?_)
   | (with_reducible refine LeO.bind ?_ (fun _ => ?_))
   | exact ih0 _ _ _ _
   | exact LeO.none _
   | refine LeO.ite ?_ ?_
   | refine LeO.bind ?_ (fun _ => ?_)
set_option maxHeartbeats 8000000 in
set_option maxRecDepth 100000 in
theorem impl_Digest.calls (k : Nat) (a0 : ByteArray) (r : Int) (w : World) (h : impl_Digest.f k a0 = some r) :
  Calls Tryd.prog 78 #[.string a0] w fun e w' => e = .returned (.int .i64 r) ∧ Drawn0 w w' := by
 have H : (impl_Digest.l0 k a0 1 (a0.size : Int) 0) = some r := h
 clear h
 have H' := Aside0.mk H
 clear H
 go_enter Tryd.func78, Tryd.ntmps78
 go_wp2
 go_loopg [3, 7] k (fun kq v3 v7 w' => ∃ (x3_1 : Int) (x7_1 : Int), v3 = .int .i64 x3_1 ∧ v7 = .int .i64 x7_1 ∧ Aside0 (impl_Digest.l0 kq a0 x3_1 (a0.size : Int) x7_1 = some r) ∧ Aside0 (kq ≤ k) ∧ Drawn0 w w')
 case atStart => exact ⟨(1), (0), (by first | rfl | (simp; done) | (simp [*]; done)), (by first | rfl | (simp; done) | (simp [*]; done)), H', ⟨Nat.le_refl _⟩, by repeat (first | exact Drawn0.refl _ | apply Drawn0.step)⟩
 case round =>
  clear H'
  obtain ⟨x3_1, x7_1, rfl, rfl, HA, HK1, ⟨m1, rfl⟩⟩ := hrel
  cases gk with
  | zero => exact absurd HA.out (by simp [impl_Digest.l0])
  | succ k1 =>
   have H := HA.out
   clear HA
   simp only [impl_Digest.l0] at H
   by_cases c2 : x7_1 < (a0.size : Int)
   ·rw [if_pos c2] at H
    have c2b0 : decide (x7_1 < (a0.size : Int)) = true := decide_eq_true c2
    clear c2
    by_cases c3 : 0 ≤ x7_1
    ·rw [if_pos c3] at H
     have c3b0 : decide (0 ≤ x7_1) = true := decide_eq_true c3
     clear c3
     by_cases c4 : x7_1 < (a0.size : Int)
     ·rw [if_pos c4] at H
      have c4b0 : decide (x7_1 < (a0.size : Int)) = true := decide_eq_true c4
      clear c4
      have H' := Aside0.mk H
      clear H
      have p5 : 0 ≤ (x7_1 : Int) := of_decide_eq_true (by first | (with_reducible assumption) | assumption)
      have q5 : x7_1 < (a0.size : Int) := of_decide_eq_true (by first | (with_reducible assumption) | assumption)
      have hx5 := bt_at a0 x7_1
      replace p5 := eq_true p5
      replace q5 := eq_true q5
      go_wp2
      go_roundg k1
      case measure => have := HK1.out; omega
      case rel => exact ⟨(Int.tmod (wrap64 ((wrap64 ((wrap64 (x3_1 * 1000003)) + (wrap64 (bt a0 x7_1)))) + 1)) 2147483647), (wrap64 (x7_1 + 1)), (by first | rfl | (simp; done) | (simp [*]; done)), (by first | rfl | (simp; done) | (simp [*]; done)), H', ⟨by have := HK1.out; omega⟩, by repeat (first | exact Drawn0.refl _ | apply Drawn0.step)⟩
     ·rw [if_neg c4] at H
      exact absurd H (by simp)
    ·rw [if_neg c3] at H
     exact absurd H (by simp)
   ·rw [if_neg c2] at H
    have c2b0 : decide (x7_1 < (a0.size : Int)) = false := decide_eq_false c2
    clear c2
    obtain rfl := Option.some.inj H
    go_wp2
    go_ret
    exact ⟨by first | rfl | (simp; done) | (simp [*]; done), by repeat (first | exact Drawn0.refl _ | apply Drawn0.step)⟩

/-! ### strconv_FormatInt_91: function 91 -/
def strconv_FormatInt_91.f (a0 : Int) (a1 : Int) : Option ByteArray := if -9223372036854775808 ≤ a0 ∧ a0 ≤ 9223372036854775807 ∧ a1 = 10 then some ⟨(Lib.itoa a0).toArray⟩ else none
set_option maxHeartbeats 8000000 in
set_option maxRecDepth 100000 in
theorem strconv_FormatInt_91.calls (a0 : Int) (a1 : Int) (r : ByteArray) (w : World) (h : strconv_FormatInt_91.f a0 a1 = some r) (hT : TabOk w) :
  Calls Tryd.prog 91 #[.int .i64 a0, .int .i64 a1] w fun e w' => e = .returned (.string r) ∧ Below w.heap.size w w' := by
 unfold strconv_FormatInt_91.f at h
 by_cases hc : -9223372036854775808 ≤ a0 ∧ a0 ≤ 9223372036854775807 ∧ a1 = 10
 ·rw [if_pos hc] at h
  obtain ⟨h0, h1, rfl⟩ := hc
  obtain rfl := Option.some.inj h
  have H0 := Aside0.mk h0
  have H1 := Aside0.mk h1
  have HT := Aside0.mk hT
  clear h0 h1 hT h
  go_enter Tryd.func91, Tryd.ntmps91
  go_wp2_with fail
  refine (Tryd.internal_strconv_FormatInt_10 a0 H0.out H1.out _ (tabIs_of HT.out)).mono ?_
  rintro e w' ⟨rfl, k, os, rfl⟩
  go_wp2
  go_ret
  exact ⟨rfl, below_grow_ _ _ _⟩
 ·rw [if_neg hc] at h
  cases h

/-! ### impl_decimal: function 79 -/
def impl_decimal.f (a0 : Int) : Option (ByteArray) := (strconv_FormatInt_91.f a0 10).bind fun t135 => (some t135)
set_option maxHeartbeats 8000000 in
set_option maxRecDepth 100000 in
theorem impl_decimal.calls (a0 : Int) (r : ByteArray) (w : World) (h : impl_decimal.f a0 = some r) (hT : TabOk w) :
  Calls Tryd.prog 79 #[.int .i64 a0] w fun e w' => e = .returned (.string r) ∧ Below w.heap.size w w' := by
 have HT := Aside0.mk hT
 clear hT
 have HB := Aside0.mk (Below.refl w.heap.size w)
 have H : ((strconv_FormatInt_91.f a0 10).bind fun t135 => (some t135)) = some r := h
 clear h
 replace H := Option.bind_eq_some_iff.mp H
 obtain ⟨t135, A20, H⟩ := H
 replace H : (some t135) = some r := H
 have A2 := Aside0.mk A20
 clear A20
 obtain rfl := Option.some.inj H
 go_enter Tryd.func79, Tryd.ntmps79
 go_wp2_with (first | ((with_reducible refine gate_callee (f := 91) rfl ?_); refine goesL_ (some 4) rfl rfl Tryd.func91 (by kernel_rfl) rfl #[.int .i64 a0, .int .i64 10] rfl (by (try simp only [List.map_toArray, List.map_cons, List.map_nil]); first | done | rfl | (simp only [List.length_drop, List.length_take]; rfl)) ?_; (with_reducible refine (strconv_FormatInt_91.calls a0 10 t135 _ A2.out (tab_at HT.out (by repeat (first | (with_reducible first | exact HB.out | apply below_alloc | apply pw_below_drewN | apply below_drew1 | (refine below_set ?_ (Aside0.out (by assumption)))) | exact HB.out)))).mono ?_); rintro e w3 ⟨rfl, hb⟩; refine ⟨_, rfl, ?_⟩; have n0_ := Aside0.mk (below_step (by repeat (first | (with_reducible first | exact HB.out | apply below_alloc | apply pw_below_drewN | apply below_drew1) | exact HB.out)) hb); clear HB; have HB := n0_; clear n0_; (try clear hb); (try clear hb2); (try clear hk); (try clear hi)))
 go_ret
 exact ⟨by first | rfl | (simp [errW_none, errW_some] <;> rfl) | (simp [*, errW_none, errW_some] <;> rfl), by repeat (first | (with_reducible first | exact HB.out | apply below_alloc | apply pw_below_drewN | apply below_drew1) | exact HB.out)⟩

/-! ### impl_Record: function 68 -/
def impl_Record.f (k : Nat) (a0 : ByteArray) : Option (ByteArray) := if (a0.size : Int) > 3000 then (some (⟨#[]⟩ : ByteArray)) else ((impl_decimal.f (a0.size : Int)).bind fun t136 => (if t136.size + 1 ≤ 9223372036854775807 then ((impl_Digest.f k a0).bind fun t137 => ((impl_decimal.f t137).bind fun t138 => (if (t136 ++ (⟨#[32]⟩ : ByteArray)).size + t138.size ≤ 9223372036854775807 then (if ((t136 ++ (⟨#[32]⟩ : ByteArray)) ++ t138).size + 1 ≤ 9223372036854775807 then (if (((t136 ++ (⟨#[32]⟩ : ByteArray)) ++ t138) ++ (⟨#[10]⟩ : ByteArray)).size + a0.size ≤ 9223372036854775807 then (if ((((t136 ++ (⟨#[32]⟩ : ByteArray)) ++ t138) ++ (⟨#[10]⟩ : ByteArray)) ++ a0).size + 1 ≤ 9223372036854775807 then (some (((((t136 ++ (⟨#[32]⟩ : ByteArray)) ++ t138) ++ (⟨#[10]⟩ : ByteArray)) ++ a0) ++ (⟨#[10]⟩ : ByteArray))) else (none)) else (none)) else (none)) else (none)))) else (none)))
theorem impl_Record.mono : ∀ a0 k, LeO (impl_Record.f k a0) (impl_Record.f (k + 1) a0) := by
 intro a0 k
 unfold impl_Record.f
 repeat' first
   | (with_reducible exact impl_Digest.mono _ _)
   | (with_reducible exact LeO.refl _)
   | (with_reducible exact LeO.none _)
   | (with_reducible refine LeO.ite ?_ ?_)
   | (with_reducible refine LeO.bind ?_ (fun _ => ?_))
   | exact impl_Digest.mono _ _
   | exact LeO.none _
   | refine LeO.ite ?_ ?_
   | refine LeO.bind ?_ (fun _ => ?_)
set_option maxHeartbeats 8000000 in
set_option maxRecDepth 100000 in
theorem impl_Record.calls (k : Nat) (a0 : ByteArray) (r : ByteArray) (w : World) (h : impl_Record.f k a0 = some r) (hT : TabOk w) :
  Calls Tryd.prog 68 #[.string a0] w fun e w' => e = .returned (.string r) ∧ Below w.heap.size w w' := by
 have HT := Aside0.mk hT
 clear hT
 have HB := Aside0.mk (Below.refl w.heap.size w)
 have H : (if (a0.size : Int) > 3000 then (some (⟨#[]⟩ : ByteArray)) else ((impl_decimal.f (a0.size : Int)).bind fun t136 => (if t136.size + 1 ≤ 9223372036854775807 then ((impl_Digest.f k a0).bind fun t137 => ((impl_decimal.f t137).bind fun t138 => (if (t136 ++ (⟨#[32]⟩ : ByteArray)).size + t138.size ≤ 9223372036854775807 then (if ((t136 ++ (⟨#[32]⟩ : ByteArray)) ++ t138).size + 1 ≤ 9223372036854775807 then (if (((t136 ++ (⟨#[32]⟩ : ByteArray)) ++ t138) ++ (⟨#[10]⟩ : ByteArray)).size + a0.size ≤ 9223372036854775807 then (if ((((t136 ++ (⟨#[32]⟩ : ByteArray)) ++ t138) ++ (⟨#[10]⟩ : ByteArray)) ++ a0).size + 1 ≤ 9223372036854775807 then (some (((((t136 ++ (⟨#[32]⟩ : ByteArray)) ++ t138) ++ (⟨#[10]⟩ : ByteArray)) ++ a0) ++ (⟨#[10]⟩ : ByteArray))) else (none)) else (none)) else (none)) else (none)))) else (none)))) = some r := h
 clear h
 by_cases c2 : (a0.size : Int) > 3000
 ·rw [if_pos c2] at H
  have c2b0 : decide (3000 < (a0.size : Int)) = true := decide_eq_true c2
  have c2b1 : decide (3000 < a0.size) = true := decide_eq_true (by omega)
  clear c2
  obtain rfl := Option.some.inj H
  go_enter Tryd.func68, Tryd.ntmps68
  go_wp2
  go_ret
  exact ⟨by first | rfl | (simp [errW_none, errW_some] <;> rfl) | (simp [*, errW_none, errW_some] <;> rfl), by repeat (first | (with_reducible first | exact HB.out | apply below_alloc | apply pw_below_drewN | apply below_drew1) | exact HB.out)⟩
 ·rw [if_neg c2] at H
  have c2b0 : decide (3000 < (a0.size : Int)) = false := decide_eq_false c2
  have c2b1 : decide (3000 < a0.size) = false := decide_eq_false (by omega)
  clear c2
  replace H := Option.bind_eq_some_iff.mp H
  obtain ⟨t136, A30, H⟩ := H
  replace H : (if t136.size + 1 ≤ 9223372036854775807 then ((impl_Digest.f k a0).bind fun t137 => ((impl_decimal.f t137).bind fun t138 => (if (t136 ++ (⟨#[32]⟩ : ByteArray)).size + t138.size ≤ 9223372036854775807 then (if ((t136 ++ (⟨#[32]⟩ : ByteArray)) ++ t138).size + 1 ≤ 9223372036854775807 then (if (((t136 ++ (⟨#[32]⟩ : ByteArray)) ++ t138) ++ (⟨#[10]⟩ : ByteArray)).size + a0.size ≤ 9223372036854775807 then (if ((((t136 ++ (⟨#[32]⟩ : ByteArray)) ++ t138) ++ (⟨#[10]⟩ : ByteArray)) ++ a0).size + 1 ≤ 9223372036854775807 then (some (((((t136 ++ (⟨#[32]⟩ : ByteArray)) ++ t138) ++ (⟨#[10]⟩ : ByteArray)) ++ a0) ++ (⟨#[10]⟩ : ByteArray))) else (none)) else (none)) else (none)) else (none)))) else (none)) = some r := H
  have A3 := Aside0.mk A30
  clear A30
  by_cases c4 : t136.size + 1 ≤ 9223372036854775807
  ·rw [if_pos c4] at H
   have c4b0 := eq_true c4
   have c4b1 : decide (t136.size + 1 ≤ 9223372036854775807) = true := decide_eq_true c4
   try have c4b2 : (9223372036854775807 < t136.size + 1) = False := eq_false (Nat.not_lt.2 c4)
   replace H := Option.bind_eq_some_iff.mp H
   obtain ⟨t137, A50, H⟩ := H
   replace H : ((impl_decimal.f t137).bind fun t138 => (if (t136 ++ (⟨#[32]⟩ : ByteArray)).size + t138.size ≤ 9223372036854775807 then (if ((t136 ++ (⟨#[32]⟩ : ByteArray)) ++ t138).size + 1 ≤ 9223372036854775807 then (if (((t136 ++ (⟨#[32]⟩ : ByteArray)) ++ t138) ++ (⟨#[10]⟩ : ByteArray)).size + a0.size ≤ 9223372036854775807 then (if ((((t136 ++ (⟨#[32]⟩ : ByteArray)) ++ t138) ++ (⟨#[10]⟩ : ByteArray)) ++ a0).size + 1 ≤ 9223372036854775807 then (some (((((t136 ++ (⟨#[32]⟩ : ByteArray)) ++ t138) ++ (⟨#[10]⟩ : ByteArray)) ++ a0) ++ (⟨#[10]⟩ : ByteArray))) else (none)) else (none)) else (none)) else (none))) = some r := H
   have A5 := Aside0.mk A50
   clear A50
   replace H := Option.bind_eq_some_iff.mp H
   obtain ⟨t138, A60, H⟩ := H
   replace H : (if (t136 ++ (⟨#[32]⟩ : ByteArray)).size + t138.size ≤ 9223372036854775807 then (if ((t136 ++ (⟨#[32]⟩ : ByteArray)) ++ t138).size + 1 ≤ 9223372036854775807 then (if (((t136 ++ (⟨#[32]⟩ : ByteArray)) ++ t138) ++ (⟨#[10]⟩ : ByteArray)).size + a0.size ≤ 9223372036854775807 then (if ((((t136 ++ (⟨#[32]⟩ : ByteArray)) ++ t138) ++ (⟨#[10]⟩ : ByteArray)) ++ a0).size + 1 ≤ 9223372036854775807 then (some (((((t136 ++ (⟨#[32]⟩ : ByteArray)) ++ t138) ++ (⟨#[10]⟩ : ByteArray)) ++ a0) ++ (⟨#[10]⟩ : ByteArray))) else (none)) else (none)) else (none)) else (none)) = some r := H
   have A6 := Aside0.mk A60
   clear A60
   by_cases c7 : (t136 ++ (⟨#[32]⟩ : ByteArray)).size + t138.size ≤ 9223372036854775807
   ·rw [if_pos c7] at H
    have c7b0 := eq_true c7
    have c7b1 : decide ((t136 ++ (⟨#[32]⟩ : ByteArray)).size + t138.size ≤ 9223372036854775807) = true := decide_eq_true c7
    try have c7b2 : (9223372036854775807 < (t136 ++ (⟨#[32]⟩ : ByteArray)).size + t138.size) = False := eq_false (Nat.not_lt.2 c7)
    try have c7b3 : (9223372036854775807 < t136.size + 1 + t138.size) = False := by have h_ := c7; simp only [ByteArray.size_append] at h_; exact eq_false (Nat.not_lt.2 h_)
    by_cases c8 : ((t136 ++ (⟨#[32]⟩ : ByteArray)) ++ t138).size + 1 ≤ 9223372036854775807
    ·rw [if_pos c8] at H
     have c8b0 := eq_true c8
     have c8b1 : decide (((t136 ++ (⟨#[32]⟩ : ByteArray)) ++ t138).size + 1 ≤ 9223372036854775807) = true := decide_eq_true c8
     try have c8b2 : (9223372036854775807 < ((t136 ++ (⟨#[32]⟩ : ByteArray)) ++ t138).size + 1) = False := eq_false (Nat.not_lt.2 c8)
     try have c8b3 : (9223372036854775807 < t136.size + 1 + t138.size + 1) = False := by have h_ := c8; simp only [ByteArray.size_append] at h_; exact eq_false (Nat.not_lt.2 h_)
     by_cases c9 : (((t136 ++ (⟨#[32]⟩ : ByteArray)) ++ t138) ++ (⟨#[10]⟩ : ByteArray)).size + a0.size ≤ 9223372036854775807
     ·rw [if_pos c9] at H
      have c9b0 := eq_true c9
      have c9b1 : decide ((((t136 ++ (⟨#[32]⟩ : ByteArray)) ++ t138) ++ (⟨#[10]⟩ : ByteArray)).size + a0.size ≤ 9223372036854775807) = true := decide_eq_true c9
      try have c9b2 : (9223372036854775807 < (((t136 ++ (⟨#[32]⟩ : ByteArray)) ++ t138) ++ (⟨#[10]⟩ : ByteArray)).size + a0.size) = False := eq_false (Nat.not_lt.2 c9)
      try have c9b3 : (9223372036854775807 < t136.size + 1 + t138.size + 1 + a0.size) = False := by have h_ := c9; simp only [ByteArray.size_append] at h_; exact eq_false (Nat.not_lt.2 h_)
      by_cases c10 : ((((t136 ++ (⟨#[32]⟩ : ByteArray)) ++ t138) ++ (⟨#[10]⟩ : ByteArray)) ++ a0).size + 1 ≤ 9223372036854775807
      ·rw [if_pos c10] at H
       have c10b0 := eq_true c10
       have c10b1 : decide (((((t136 ++ (⟨#[32]⟩ : ByteArray)) ++ t138) ++ (⟨#[10]⟩ : ByteArray)) ++ a0).size + 1 ≤ 9223372036854775807) = true := decide_eq_true c10
       try have c10b2 : (9223372036854775807 < ((((t136 ++ (⟨#[32]⟩ : ByteArray)) ++ t138) ++ (⟨#[10]⟩ : ByteArray)) ++ a0).size + 1) = False := eq_false (Nat.not_lt.2 c10)
       try have c10b3 : (9223372036854775807 < t136.size + 1 + t138.size + 1 + a0.size + 1) = False := by have h_ := c10; simp only [ByteArray.size_append] at h_; exact eq_false (Nat.not_lt.2 h_)
       obtain rfl := Option.some.inj H
       go_enter Tryd.func68, Tryd.ntmps68
       go_wp2_with (first | ((with_reducible refine gate_callee (f := 79) rfl ?_); refine goesL_ (some 8) rfl rfl Tryd.func79 (by kernel_rfl) rfl #[.int .i64 (a0.size : Int)] rfl (by (try simp only [List.map_toArray, List.map_cons, List.map_nil]); first | done | rfl | (simp only [List.length_drop, List.length_take]; rfl)) ?_; (with_reducible refine (impl_decimal.calls (a0.size : Int) t136 _ A3.out (tab_at HT.out (by repeat (first | (with_reducible first | exact HB.out | apply below_alloc | apply pw_below_drewN | apply below_drew1 | (refine below_set ?_ (Aside0.out (by assumption)))) | exact HB.out)))).mono ?_); rintro e w11 ⟨rfl, hb⟩; refine ⟨_, rfl, ?_⟩; have n0_ := Aside0.mk (below_step (by repeat (first | (with_reducible first | exact HB.out | apply below_alloc | apply pw_below_drewN | apply below_drew1) | exact HB.out)) hb); clear HB; have HB := n0_; clear n0_; (try clear hb); (try clear hb2); (try clear hk); (try clear hi)) | ((with_reducible refine gate_callee (f := 78) rfl ?_); refine goesL_ (some 11) rfl rfl Tryd.func78 (by kernel_rfl) rfl #[.string a0] rfl (by (try simp only [List.map_toArray, List.map_cons, List.map_nil]); first | done | rfl | (simp only [List.length_drop, List.length_take]; rfl)) ?_; (with_reducible refine (impl_Digest.calls k a0 t137 _ A5.out).mono ?_); rintro e w' ⟨rfl, ⟨nd, rfl⟩⟩; refine ⟨_, rfl, ?_⟩) | ((with_reducible refine gate_callee (f := 79) rfl ?_); refine goesL_ (some 12) rfl rfl Tryd.func79 (by kernel_rfl) rfl #[.int .i64 t137] rfl (by (try simp only [List.map_toArray, List.map_cons, List.map_nil]); first | done | rfl | (simp only [List.length_drop, List.length_take]; rfl)) ?_; (with_reducible refine (impl_decimal.calls t137 t138 _ A6.out (tab_at HT.out (by repeat (first | (with_reducible first | exact HB.out | apply below_alloc | apply pw_below_drewN | apply below_drew1 | (refine below_set ?_ (Aside0.out (by assumption)))) | exact HB.out)))).mono ?_); rintro e w12 ⟨rfl, hb⟩; refine ⟨_, rfl, ?_⟩; have n0_ := Aside0.mk (below_step (by repeat (first | (with_reducible first | exact HB.out | apply below_alloc | apply pw_below_drewN | apply below_drew1) | exact HB.out)) hb); clear HB; have HB := n0_; clear n0_; (try clear hb); (try clear hb2); (try clear hk); (try clear hi)))
       go_ret
       exact ⟨by first | rfl | (simp [errW_none, errW_some] <;> rfl) | (simp [*, errW_none, errW_some] <;> rfl), by repeat (first | (with_reducible first | exact HB.out | apply below_alloc | apply pw_below_drewN | apply below_drew1) | exact HB.out)⟩
      ·rw [if_neg c10] at H
       exact absurd H (by simp)
     ·rw [if_neg c9] at H
      exact absurd H (by simp)
    ·rw [if_neg c8] at H
     exact absurd H (by simp)
   ·rw [if_neg c7] at H
    exact absurd H (by simp)
  ·rw [if_neg c4] at H
   exact absurd H (by simp)

-- NOT PRINTED: function 94 (stringslite_HasPrefix)

-- NOT PRINTED: function 98 (stringslite_TrimPrefix)

-- NOT PRINTED: function 88 (strings_TrimPrefix)

-- NOT PRINTED: function 121 (strconv_lower)

-- NOT PRINTED: function 122 (strconv_underscoreOK)

-- NOT PRINTED: function 107 (strconv_ParseUint)

-- NOT PRINTED: function 99 (strconv_ParseInt_99)

-- NOT PRINTED: function 123 (stringslite_Clone)


-- NOT PRINTED: function 109 (strconv_rangeError)

-- NOT PRINTED: function 124 (errors_New)

-- NOT PRINTED: function 112 (strconv_small)

-- NOT PRINTED: function 126 (strconv_log10Pow2)

-- NOT PRINTED: function 127 (bits_Len64)

-- NOT PRINTED: function 128 (strconv_bool2_int)

-- NOT PRINTED: function 113 (strconv_numDigits)

-- NOT PRINTED: function 114 (strconv_formatBase10)

-- NOT PRINTED: function 129 (strconv_isPowerOfTwo)

-- NOT PRINTED: function 134 (bits_TrailingZeros32)

-- NOT PRINTED: function 135 (bits_TrailingZeros64)

-- NOT PRINTED: function 130 (bits_TrailingZeros)

-- NOT PRINTED: function 115 (strconv_formatBits)

-- NOT PRINTED: function 102 (strconv_FormatInt_102)

-- NOT PRINTED: function 133 (strconv_Itoa_133)

-- NOT PRINTED: function 125 (strconv_Itoa_125)

-- NOT PRINTED: function 110 (strconv_baseError)

-- NOT PRINTED: function 111 (strconv_bitSizeError)

-- NOT PRINTED: function 100 (strconv_toError)

-- NOT PRINTED: function 89 (strconv_ParseInt_89)

/-! ### impl_number: function 74 -/
def impl_number.f (s : ByteArray) : Option (Int × Bool) :=
 if ((⟨(Lib.trimPrefix s.data.toList [45]).toArray⟩ : ByteArray).size : Int) > 10 then some (0, false) else if s.size ≤ 281474976710656 then (match Lib.parseIntB 64 s.data.toList with
  | .ok v => (impl_decimal.f v).bind fun d => some (v, d.toList == s.toList)
  | .range => some (Lib.intSat 64 s.data.toList, false)
  | _ => some (0, false)) else none
set_option maxHeartbeats 8000000 in
set_option maxRecDepth 100000 in
theorem impl_number.calls (s : ByteArray) (r1 : Int) (r2 : Bool) (w : World) (h : impl_number.f s = some (r1, r2)) (hT : TabOk w) :
  Calls Tryd.prog 74 #[.string s] w fun e w' => e = .returned (.tuple #[.int .i64 r1, .bool r2]) ∧ Below w.heap.size w w' := by
 have eg1 : ∀ args w, (callFunc 88 args).run Tryd.prog w = .ok (.enter 88 args) w := enters_ Tryd.func88 (by kernel_rfl) rfl
 have eg2 : ∀ args w, (callFunc 89 args).run Tryd.prog w = .ok (.enter 89 args) w := enters_ Tryd.func89 (by kernel_rfl) rfl
 have eg3 : ∀ args w, (callFunc 79 args).run Tryd.prog w = .ok (.enter 79 args) w := enters_ Tryd.func79 (by kernel_rfl) rfl
 unfold impl_number.f at h
 have HT := Aside0.mk hT
 have HE := Aside0.mk (errs_of hT)
 have H := Aside0.mk h
 clear h hT
 go_enter Tryd.func74, Tryd.ntmps74
 go_wp2_with fail
 refine (Tryd.strings_TrimPrefix s ⟨#[45]⟩ _).mono ?_
 rintro e w' ⟨rfl, rfl⟩
 have hh := H.out
 clear H
 change (if ((⟨(Lib.trimPrefix s.data.toList (⟨#[45]⟩ : ByteArray).data.toList).toArray⟩ : ByteArray).size : Int) > 10 then some (0, false) else _) = _ at hh
 generalize (⟨(Lib.trimPrefix s.data.toList (⟨#[45]⟩ : ByteArray).data.toList).toArray⟩ : ByteArray) = T at hh ⊢
 by_cases c1 : (T.size : Int) > 10
 ·rw [if_pos c1] at hh
  have c1b : decide (10 < (T.size : Int)) = true := decide_eq_true c1
  clear c1
  obtain ⟨rfl, rfl⟩ : 0 = r1 ∧ false = r2 := by simpa using hh
  clear hh
  go_wp2
  go_ret2
  exact ⟨rfl, Below.refl _ _⟩
 ·rw [if_neg c1] at hh
  have c1b : decide (10 < (T.size : Int)) = false := decide_eq_false c1
  clear c1
  by_cases c2 : s.size ≤ 281474976710656
  ·rw [if_pos c2] at hh
   have C2 := Aside0.mk c2
   clear c2
   cases hp : Lib.parseIntB 64 s.data.toList with
   | ok v =>
    rw [hp] at hh
    obtain ⟨d, hd, hh⟩ := Option.bind_eq_some_iff.1 hh
    obtain ⟨rfl, rfl⟩ : v = r1 ∧ (d.toList == s.toList) = r2 := by simpa using hh
    have HP := Aside0.mk hp
    have HD := Aside0.mk hd
    clear hp hd hh
    go_wp2_with fail
    refine (Tryd.strconv_ParseInt_10_at64_ok s (by have := C2.out; omega) v HP.out _).mono ?_
    rintro e w1 ⟨rfl, hw⟩
    have HB : Aside0 (Below w'.heap.size w' w1) := ⟨by
     rcases hw with rfl | ⟨t, rfl⟩
     ·exact Below.refl _ _
     ·exact bytes_below (Below.refl _ _) (Nat.le_refl _) 5 t⟩
    clear hw
    go_wp2_with fail
    refine (impl_decimal.calls v d _ HD.out (tab_at HT.out HB.out)).mono ?_
    rintro e w2 ⟨rfl, hb⟩
    have HB2 := Aside0.mk (below_step HB.out hb)
    clear hb
    go_wp2
    go_ret2
    exact ⟨rfl, HB2.out⟩
   | range =>
    rw [hp] at hh
    obtain ⟨rfl, rfl⟩ : Lib.intSat 64 s.data.toList = r1 ∧ false = r2 := by simpa using hh
    have HP := Aside0.mk hp
    clear hp hh
    obtain ⟨tp, p, hv⟩ := HE.out.2.1
    have HV := Aside0.mk hv
    clear hv
    go_wp2_with fail
    refine (Tryd.strconv_ParseInt_10_at64_range_var s C2.out HP.out tp p _ HV.out).mono ?_
    rintro e w1 ⟨M, rfl, hM, hc, hb⟩
    have HB := Aside0.mk hb
    clear hM hc hb
    go_wp2
    go_ret2
    exact ⟨rfl, HB.out⟩
   | _ =>
    rw [hp] at hh
    obtain ⟨rfl, rfl⟩ : 0 = r1 ∧ false = r2 := by simpa using hh
    have HP := Aside0.mk hp
    clear hp hh
    obtain ⟨tp, p, hv⟩ := HE.out.1
    have HV := Aside0.mk hv
    clear hv
    go_wp2_with fail
    refine (Tryd.strconv_ParseInt_10_at64_syntax_var s C2.out HP.out tp p _ HV.out).mono ?_
    rintro e w1 ⟨M, rfl, hM, hc, hb⟩
    have HB := Aside0.mk hb
    clear hM hc hb
    go_wp2
    go_ret2
    exact ⟨rfl, HB.out⟩
  ·rw [if_neg c2] at hh
   cases hh

-- NOT PRINTED: function 131 (bytealg_IndexByteString)

-- NOT PRINTED: function 116 (stringslite_IndexByte)

-- NOT PRINTED: function 117 (bytealg_IndexString)

-- NOT PRINTED: function 118 (bytealg_Cutover)

-- NOT PRINTED: function 132 (bytealg_hashStr_string)

-- NOT PRINTED: function 119 (bytealg_IndexRabinKarp_string)

-- NOT PRINTED: function 103 (stringslite_Index)

-- NOT PRINTED: function 93 (stringslite_Cut)

-- NOT PRINTED: function 83 (strings_Cut)

-- NOT PRINTED: function 84 (strings_HasPrefix)

/-! ### impl_firstRecord: function 67 -/
def cutA (s p : ByteArray) : ByteArray := ⟨(Lib.cut s.data.toList p.data.toList).1.toArray⟩
def cutB (s p : ByteArray) : ByteArray := ⟨(Lib.cut s.data.toList p.data.toList).2.1.toArray⟩
def cutO (s p : ByteArray) : Bool := (Lib.cut s.data.toList p.data.toList).2.2
theorem cut_calls (s p : ByteArray) (m : Int) (w : World) (hs : s.size < 4294967281) (hm : w.cell? ⟨0, 0, none⟩ = some (.int .i64 m)) :
  Calls Tryd.prog 83 #[.string s, .string p] w fun e w' => e = .returned (.tuple #[.string (cutA s p), .string (cutB s p), .bool (cutO s p)]) ∧ ∃ n, w' = w.drewN n := Tryd.strings_Cut s p m w hs hm
theorem cutB_size (s p : ByteArray) : (cutB s p).size ≤ s.size := by
 have : s.data.toList.length = s.size := data_length s
 show (Lib.cut s.data.toList p.data.toList).2.1.toArray.size ≤ _
 unfold Lib.cut
 split
 ·simp only [List.size_toArray, List.length_drop]; omega
 ·simp
def impl_firstRecord.f (k : Nat) (s : ByteArray) : Option (ByteArray × Bool) :=
 if s.size < 4294967281 then (impl_number.f (cutA s ⟨#[32]⟩)).bind fun n =>
  if cutO s ⟨#[32]⟩ = true ∧ cutO (cutB s ⟨#[32]⟩) ⟨#[10]⟩ = true ∧ n.2 = true then
   (if 0 ≤ n.1 ∧ n.1 ≤ ((cutB (cutB s ⟨#[32]⟩) ⟨#[10]⟩).size : Int) then (impl_Record.f k ((cutB (cutB s ⟨#[32]⟩) ⟨#[10]⟩).extract 0 n.1.toNat)).bind fun own => some ((cutB (cutB s ⟨#[32]⟩) ⟨#[10]⟩).extract 0 n.1.toNat, own.toList != ([] : List UInt8) && Lib.hasPrefix s.data.toList own.data.toList) else some ((⟨#[]⟩ : ByteArray), false))
  else some ((⟨#[]⟩ : ByteArray), false) else none
theorem impl_firstRecord.mono : ∀ a0 k, LeO (impl_firstRecord.f k a0) (impl_firstRecord.f (k + 1) a0) := by
 intro a0 k
 unfold impl_firstRecord.f
 exact LeO.ite (LeO.bind (LeO.refl _) (fun _ => LeO.ite (LeO.ite (LeO.bind (impl_Record.mono _ _) (fun _ => LeO.refl _)) (LeO.refl _)) (LeO.refl _))) (LeO.none _)
set_option maxHeartbeats 8000000 in
set_option maxRecDepth 100000 in
theorem impl_firstRecord.calls (k : Nat) (s : ByteArray) (r1 : ByteArray) (r2 : Bool) (w : World) (h : impl_firstRecord.f k s = some (r1, r2)) (hT : TabOk w) :
  Calls Tryd.prog 67 #[.string s] w fun e w' => e = .returned (.tuple #[.string r1, .bool r2]) ∧ Below w.heap.size w w' := by
 have eg1 : ∀ args w, (callFunc 83 args).run Tryd.prog w = .ok (.enter 83 args) w := enters_ Tryd.func83 (by kernel_rfl) rfl
 have eg2 : ∀ args w, (callFunc 74 args).run Tryd.prog w = .ok (.enter 74 args) w := enters_ Tryd.func74 (by kernel_rfl) rfl
 have eg3 : ∀ args w, (callFunc 63 args).run Tryd.prog w = .ok (.enter 63 args) w := enters_ Tryd.func63 (by kernel_rfl) rfl
 have eg4 : ∀ args w, (callFunc 68 args).run Tryd.prog w = .ok (.enter 68 args) w := enters_ Tryd.func68 (by kernel_rfl) rfl
 have eg5 : ∀ args w, (callFunc 84 args).run Tryd.prog w = .ok (.enter 84 args) w := enters_ Tryd.func84 (by kernel_rfl) rfl
 unfold impl_firstRecord.f at h
 by_cases hs : s.size < 4294967281
 ·rw [if_pos hs] at h
  obtain ⟨⟨n, ok⟩, hn, hh⟩ := Option.bind_eq_some_iff.1 h
  clear h
  dsimp only at hh
  have HT := Aside0.mk hT
  have HE := Aside0.mk (errs_of hT)
  obtain ⟨m, hm⟩ := (errs_of hT).2.2
  have HM := Aside0.mk hm
  have HS := Aside0.mk hs
  have HN := Aside0.mk hn
  have hcl : (cutB s ⟨#[32]⟩).size < 4294967281 := Nat.lt_of_le_of_lt (cutB_size _ _) hs
  have HC := Aside0.mk hcl
  clear hs hn hT hm hcl
  go_enter Tryd.func67, Tryd.ntmps67
  go_wp2_with fail
  refine (cut_calls s ⟨#[32]⟩ m _ HS.out HM.out).mono ?_
  rintro e w1 ⟨rfl, ⟨d1, rfl⟩⟩
  generalize cutB s ⟨#[32]⟩ = R1 at hh HC ⊢
  generalize cutA s ⟨#[32]⟩ = A1 at HN ⊢
  generalize cutO s ⟨#[32]⟩ = o1 at hh ⊢
  go_wp2_with fail
  refine (cut_calls R1 ⟨#[10]⟩ m _ HC.out (show (w.drewN d1).cell? ⟨0, 0, none⟩ = some (.int .i64 m) from HM.out)).mono ?_
  rintro e w1 ⟨rfl, ⟨d2, rfl⟩⟩
  generalize cutB R1 ⟨#[10]⟩ = R2 at hh ⊢
  generalize cutA R1 ⟨#[10]⟩ = A2
  generalize cutO R1 ⟨#[10]⟩ = o2 at hh ⊢
  have HB := Aside0.mk (pw_below_drewN (Below.refl w.heap.size w) (d1 + d2))
  have HH := Aside0.mk hh
  clear hh
  go_wp2_with fail
  refine (impl_number.calls A1 n ok _ HN.out (tab_at HT.out HB.out)).mono ?_
  rintro e w1 ⟨rfl, hb⟩
  have HB1 := Aside0.mk (below_step HB.out hb)
  clear hb HB
  have hh := HH.out
  clear HH
  cases o1 with
  | false =>
   obtain ⟨rfl, rfl⟩ : (⟨#[]⟩ : ByteArray) = r1 ∧ false = r2 := by simpa using hh
   clear hh
   go_wp2
   go_ret2
   exact ⟨rfl, HB1.out⟩
  | true =>
   cases o2 with
   | false =>
    obtain ⟨rfl, rfl⟩ : (⟨#[]⟩ : ByteArray) = r1 ∧ false = r2 := by simpa using hh
    clear hh
    go_wp2
    go_ret2
    exact ⟨rfl, HB1.out⟩
   | true =>
    cases ok with
    | false =>
     obtain ⟨rfl, rfl⟩ : (⟨#[]⟩ : ByteArray) = r1 ∧ false = r2 := by simpa using hh
     clear hh
     go_wp2
     go_ret2
     exact ⟨rfl, HB1.out⟩
    | true =>
     rw [if_pos ⟨rfl, rfl, rfl⟩] at hh
     by_cases c : 0 ≤ n ∧ n ≤ (R2.size : Int)
     ·rw [if_pos c] at hh
      have hw_ : impl_within.f n 0 (R2.size : Int) = some true := by
       unfold impl_within.f
       rw [if_pos (by omega), decide_eq_true c.2]
      have HW := Aside0.mk hw_
      obtain ⟨own, ho, hq⟩ := Option.bind_eq_some_iff.1 hh
      have HO := Aside0.mk ho
      obtain ⟨rfl, rfl⟩ : R2.extract 0 n.toNat = r1 ∧ (own.toList != ([] : List UInt8) && Lib.hasPrefix s.data.toList own.data.toList) = r2 := by simpa using hq
      have c0 := eq_true c.1
      have c1 : decide (0 ≤ n) = true := decide_eq_true c.1
      have c2 := eq_true c.2
      have c3 : decide (n ≤ (R2.size : Int)) = true := decide_eq_true c.2
      clear hh hq ho hw_ c
      go_wp2_with fail
      refine (impl_within.calls n 0 (R2.size : Int) true _ HW.out).mono ?_
      rintro e w2 ⟨rfl, ⟨d3, rfl⟩⟩
      have HB2 := Aside0.mk (pw_below_drewN HB1.out d3)
      go_wp2_with fail
      refine (impl_Record.calls k (R2.extract 0 n.toNat) own _ HO.out (tab_at HT.out HB2.out)).mono ?_
      rintro e w3 ⟨rfl, hb⟩
      have HB3 := Aside0.mk (below_step HB2.out hb)
      clear hb
      cases hz : own.toList == ([] : List UInt8) with
      | true =>
       have hz1 : (own.toList != ([] : List UInt8)) = false := by unfold bne; rw [hz]; rfl
       have hz2 : own.toList.isEmpty = true := by rw [eq_of_beq hz]; rfl
       go_wp2
       go_ret2
       exact ⟨by first | rfl | simp [hz1], HB3.out⟩
      | false =>
       have hz1 : (own.toList != ([] : List UInt8)) = true := by unfold bne; rw [hz]; rfl
       have hz2 : own.toList.isEmpty = false := by cases hq_ : own.toList with | nil => (rw [hq_] at hz; exact absurd hz (by decide)) | cons _ _ => rfl
       go_wp2_with fail
       refine (Tryd.strings_HasPrefix s own _).mono ?_
       rintro e w4 ⟨rfl, rfl⟩
       go_wp2
       go_ret2
       exact ⟨by first | rfl | simp [hz1], HB3.out⟩
     ·rw [if_neg c] at hh
      have hw_ : impl_within.f n 0 (R2.size : Int) = some false := by
       unfold impl_within.f
       by_cases c4 : n ≥ 0
       ·rw [if_pos c4, decide_eq_false (fun h_ => c ⟨c4, h_⟩)]
       ·rw [if_neg c4]
      have HW := Aside0.mk hw_
      obtain ⟨rfl, rfl⟩ : (⟨#[]⟩ : ByteArray) = r1 ∧ false = r2 := by simpa using hh
      clear hh c hw_
      go_wp2_with fail
      refine (impl_within.calls n 0 (R2.size : Int) false _ HW.out).mono ?_
      rintro e w2 ⟨rfl, ⟨d3, rfl⟩⟩
      go_wp2
      go_ret2
      exact ⟨rfl, pw_below_drewN HB1.out d3⟩
 ·rw [if_neg hs] at h
  cases h

/-! ### impl_Records: function 30 -/
def impl_Records.l0 : Nat → ByteArray → List ByteArray → Int → Option (List ByteArray × Int)
 | 0, _, _, _ => none
 | k + 1, x0, x4, x5 => if 0 ≤ x5 then (if x5 ≤ (x0.size : Int) then ((impl_firstRecord.f k (x0.extract (x5 : Int).toNat x0.size)).bind fun bt142 => (if bt142.2 = true then (if x4.length < 8796093022208 then ((impl_Record.f k bt142.1).bind fun t147 => (impl_Records.l0 k x0 (x4 ++ [bt142.1]) (wrap64 (x5 + (t147.size : Int))))) else (none)) else (some (x4, x5)))) else (none)) else (none)
def impl_Records.f (k : Nat) (a0 : ByteArray) : Option (List ByteArray × Int) := impl_Records.l0 k a0 (([] : List ByteArray)) 0
theorem impl_Records.mono_l : ∀ k, (∀ y0 y1 y2, LeO (impl_Records.l0 k y0 y1 y2) (impl_Records.l0 (k + 1) y0 y1 y2))
 | 0 => fun _ _ _ r h => by simp [impl_Records.l0] at h
 | k + 1 => by
  have ih0 := impl_Records.mono_l k
  ·intro y0 y1 y2
   unfold impl_Records.l0
   repeat' first
   | (with_reducible exact ih0 _ _ _)
   | (with_reducible exact impl_Record.mono _ _)
   | (with_reducible exact impl_firstRecord.mono _ _)
   | (with_reducible exact LeO.refl _)
   | (with_reducible exact LeO.none _)
   | (with_reducible refine LeO.ite ?_ ?_)
   | (with_reducible refine LeO.bind ?_ (fun _ => ?_))
   | exact ih0 _ _ _
   | exact impl_Record.mono _ _
   | exact impl_firstRecord.mono _ _
   | exact LeO.none _
   | refine LeO.ite ?_ ?_
   | refine LeO.bind ?_ (fun _ => ?_)
theorem impl_Records.mono : ∀ a0 k, LeO (impl_Records.f k a0) (impl_Records.f (k + 1) a0) := by
 intro a0 k
 have ih0 := impl_Records.mono_l k
 unfold impl_Records.f
 repeat' first
   | (with_reducible exact ih0 _ _ _)
   | (with_reducible exact impl_Record.mono _ _)
   | (with_reducible exact impl_firstRecord.mono _ _)
   | (with_reducible exact LeO.refl _)
   | (with_reducible exact LeO.none _)
   | (with_reducible refine LeO.ite ?_ ?_)
   | (with_reducible refine LeO.bind ?_ (fun _ => ?_))
   | exact ih0 _ _ _
   | exact impl_Record.mono _ _
   | exact impl_firstRecord.mono _ _
   | exact LeO.none _
   | refine LeO.ite ?_ ?_
   | refine LeO.bind ?_ (fun _ => ?_)
set_option maxHeartbeats 8000000 in
set_option maxRecDepth 100000 in
theorem impl_Records.calls (k : Nat) (a0 : ByteArray) (r1 : List ByteArray) (r2 : Int) (w : World) (h : impl_Records.f k a0 = some (r1, r2)) (hT : TabOk w) :
  Calls Tryd.prog 30 #[.string a0] w fun e w' => ∃ v0_ : Value, e = .returned (.tuple #[v0_, .int .i64 r2]) ∧ Kd.R Kd.string 9 w' w.heap.size (fun _ => True) v0_ r1 ∧ Below w.heap.size w w' := by
 have HT := Aside0.mk hT
 clear hT
 have HB := Aside0.mk (Below.refl w.heap.size w)
 have H : (impl_Records.l0 k a0 (([] : List ByteArray)) 0) = some (r1, r2) := h
 clear h
 obtain ⟨y139, hy139⟩ : ∃ y_ : List ByteArray, y_ = (([] : List ByteArray)) := ⟨_, rfl⟩
 replace H : (impl_Records.l0 k a0 y139 0) = some (r1, r2) := by first | (rw [hy139]; with_reducible exact H) | (have H2_ := (Option.bind_some _ _).symm.trans H; rw [hy139]; with_reducible exact H2_) | (have H2_ := (Option.bind_some _ _).symm.trans H; with_reducible exact H2_) | with_reducible exact H | (rw [hy139]; exact H) | exact H
 have Ny139 := Aside0.mk hy139
 clear hy139
 have H' := Aside0.mk H
 clear H
 go_enter Tryd.func30, Tryd.ntmps30
 go_wp2_with (first | ((with_reducible refine gate_dst (N := 8) rfl ?_); refine Kd.R_lit Kd.string _ 9 ?hg (N := 8) ?hd (xs := ([] : List ByteArray)) (inner := []) (ok := fun _ => True) (okp := fun _ => True) ?hr ?hp (fun _ hk => hk) trivial (Below.refl _ _) (Nat.le_refl _) (by simp) ?_; (case hd => rfl); (case hg => rfl); (case hr => first | (go_simp; done) | (go_simp; rfl)); (case hp => exact (Reps.none _ _)); intro v140 w2 ho3 hb hg_ hnew_; clear hg_ hnew_; (first | rw [← Ny139.out] at ho3 | (simp only [Int.reduceToNat] at ho3; rw [← Ny139.out] at ho3)); have n0_ := Aside0.mk (Kd.R_lower ho3 (below_size (by repeat (first | (with_reducible first | exact HB.out | apply below_alloc | apply pw_below_drewN | apply below_drew1) | exact HB.out)))); have n1_ := Aside0.mk (below_step (by repeat (first | (with_reducible first | exact HB.out | apply below_alloc | apply pw_below_drewN | apply below_drew1) | exact HB.out)) hb); clear HB; have HO141 := n0_; have HB := n1_; clear n0_ n1_; clear hb ho3))
 go_loopg [4, 5] k (fun kq v4 v5 w' => ∃ (x4_1 : List ByteArray) (x5_1 : Int), v5 = .int .i64 x5_1 ∧ Aside0 (impl_Records.l0 kq a0 x4_1 x5_1 = some (r1, r2)) ∧ Aside0 (kq ≤ k) ∧ Aside0 (Kd.R Kd.string 9 w' w.heap.size (fun _ => True) v4 x4_1) ∧ Aside0 (Below w.heap.size w w'))
 case atStart => exact ⟨(y139), (0), (by first | rfl | (simp; done) | (simp [*]; done)), H', ⟨Nat.le_refl _⟩, ⟨by (with_reducible repeat (first | apply Kd.R_alloc | apply Kd.R_drewN | apply Kd.R_drew)); exact HO141.out⟩, ⟨by repeat (first | (with_reducible first | exact HB.out | apply below_alloc | apply pw_below_drewN | apply below_drew1) | exact HB.out)⟩⟩
 case round =>
  clear H'
  try clear p2
  try clear c3
  obtain ⟨x4_1, x5_1, rfl, HA, HK1, HO_4, HB⟩ := hrel
  cases gk with
  | zero => exact absurd HA.out (by simp [impl_Records.l0])
  | succ k1 =>
   have H := HA.out
   clear HA
   simp only [impl_Records.l0] at H
   by_cases c4 : 0 ≤ x5_1
   ·rw [if_pos c4] at H
    have c4b0 := eq_true c4
    have c4b1 : decide (0 ≤ x5_1) = true := decide_eq_true c4
    clear c4
    by_cases c5 : x5_1 ≤ (a0.size : Int)
    ·rw [if_pos c5] at H
     have c5b0 := eq_true c5
     have c5b1 : decide (x5_1 ≤ (a0.size : Int)) = true := decide_eq_true c5
     clear c5
     replace H := Option.bind_eq_some_iff.mp H
     obtain ⟨⟨t142, t143⟩, A60, H⟩ := H
     replace H : (if t143 = true then (if x4_1.length < 8796093022208 then ((impl_Record.f k1 t142).bind fun t147 => (impl_Records.l0 k1 a0 (x4_1 ++ [t142]) (wrap64 (x5_1 + (t147.size : Int))))) else (none)) else (some (x4_1, x5_1))) = some (r1, r2) := H
     have A6 := Aside0.mk A60
     clear A60
     have HC7 := Aside0.mk H
     clear H
     go_upto_if 17 with (first | ((with_reducible refine gate_callee (f := 67) rfl ?_); refine goesL_ (some 13) rfl rfl Tryd.func67 (by kernel_rfl) rfl #[.string (a0.extract (x5_1 : Int).toNat a0.size)] rfl (by (try simp only [List.map_toArray, List.map_cons, List.map_nil]); first | done | rfl | (simp only [List.length_drop, List.length_take]; rfl)) ?_; (with_reducible refine (impl_firstRecord.calls k1 (a0.extract (x5_1 : Int).toNat a0.size) t142 t143 _ A6.out (tab_at HT.out (by repeat (first | (with_reducible first | exact HB.out | apply below_alloc | apply pw_below_drewN | apply below_drew1 | (refine below_set ?_ (Aside0.out (by assumption)))) | exact HB.out)))).mono ?_); rintro e w8 ⟨rfl, hb⟩; refine ⟨_, rfl, ?_⟩; have n0_ := Aside0.mk (Kd.R_below (by (with_reducible repeat (first | apply Kd.R_alloc | apply Kd.R_drewN | apply Kd.R_drew)); exact HO_4.out) hb); have n1_ := Aside0.mk (below_step (by repeat (first | (with_reducible first | exact HB.out | apply below_alloc | apply pw_below_drewN | apply below_drew1) | exact HB.out)) hb); clear HO_4; clear HB; have HO_4 := n0_; have HB := n1_; clear n0_ n1_; (try clear hb); (try clear hb2); (try clear hk); (try clear hi)))
     (try simp only [Act.put, List.setIfInBounds_toArray, List.set_cons_zero, List.set_cons_succ])
     have H := HC7.out
     clear HC7
     by_cases c9 : t143 = true
     ·subst c9
      have H1 : (if x4_1.length < 8796093022208 then ((impl_Record.f k1 t142).bind fun t147 => (impl_Records.l0 k1 a0 (x4_1 ++ [t142]) (wrap64 (x5_1 + (t147.size : Int))))) else (none)) = some (r1, r2) := by rw [if_pos rfl] at H; exact H
      clear H
      have H := H1
      clear H1
      by_cases c10 : x4_1.length < 8796093022208
      ·rw [if_pos c10] at H
       have LMc10 := Aside0.mk c10
       clear c10
       obtain ⟨y144, hy144⟩ : ∃ y_ : List ByteArray, y_ = (x4_1 ++ [t142]) := ⟨_, rfl⟩
       replace H : ((impl_Record.f k1 t142).bind fun t147 => (impl_Records.l0 k1 a0 y144 (wrap64 (x5_1 + (t147.size : Int))))) = some (r1, r2) := by first | (rw [hy144]; with_reducible exact H) | (have H2_ := (Option.bind_some _ _).symm.trans H; rw [hy144]; with_reducible exact H2_) | (have H2_ := (Option.bind_some _ _).symm.trans H; with_reducible exact H2_) | with_reducible exact H | (rw [hy144]; exact H) | exact H
       have Ny144 := Aside0.mk hy144
       clear hy144
       replace H := Option.bind_eq_some_iff.mp H
       obtain ⟨t147, A110, H⟩ := H
       replace H : (impl_Records.l0 k1 a0 y144 (wrap64 (x5_1 + (t147.size : Int)))) = some (r1, r2) := H
       have A11 := Aside0.mk A110
       clear A110
       have H' := Aside0.mk H
       clear H
       go_wp2_with (first | ((with_reducible refine gate_builtin (b := .append) (xs := #[.tmp 20, .tmp 22]) rfl ?_); at_builtin; refine Kd.R_append Kd.string (w0 := w) w.heap.size rfl (.tmp 20) (.tmp 22) 52 9 (.string ⟨#[]⟩) 16 rfl Tryd.underlying52 info9 rfl (by decide) (by omega) u4 x4_1 t142 [.string t142] (fun _ => True) (fun _ => False) rfl rfl ?aP (fun _ hk => hk.elim) ?aF ?aO ?aB ?aS ?aL ?_; (case aP => exact rfl); (case aB => exact (by repeat (first | (with_reducible first | exact HB.out | apply below_alloc | apply pw_below_drewN | apply below_drew1) | exact HB.out))); (case aF => exact (fun _ _ => trivial)); (case aO => exact (by (with_reducible repeat (first | apply Kd.R_alloc | apply Kd.R_drewN | apply Kd.R_drew)); exact HO_4.out)); (case aS => exact (below_size (by repeat (first | (with_reducible first | exact HB.out | apply below_alloc | apply pw_below_drewN | apply below_drew1) | exact HB.out)))); (case aL => have := LMc10.out; omega); intro v145 w12 ho hb hg hat; rw [← Ny144.out] at ho; have n0_ := Aside0.mk (hb); have n1_ := Aside0.mk (ho); clear HB; clear HO_4; have HB := n0_; have HO146 := n1_; clear n0_ n1_; clear ho hb hg hat) | ((with_reducible refine gate_callee (f := 68) rfl ?_); refine goesL_ (some 26) rfl rfl Tryd.func68 (by kernel_rfl) rfl #[.string t142] rfl (by (try simp only [List.map_toArray, List.map_cons, List.map_nil]); first | done | rfl | (simp only [List.length_drop, List.length_take]; rfl)) ?_; (with_reducible refine (impl_Record.calls k1 t142 t147 _ A11.out (tab_at HT.out (by repeat (first | (with_reducible first | exact HB.out | apply below_alloc | apply pw_below_drewN | apply below_drew1 | (refine below_set ?_ (Aside0.out (by assumption)))) | exact HB.out)))).mono ?_); rintro e w13 ⟨rfl, hb⟩; refine ⟨_, rfl, ?_⟩; have n0_ := Aside0.mk (Kd.R_below (by (with_reducible repeat (first | apply Kd.R_alloc | apply Kd.R_drewN | apply Kd.R_drew)); exact HO146.out) hb); have n1_ := Aside0.mk (below_step (by repeat (first | (with_reducible first | exact HB.out | apply below_alloc | apply pw_below_drewN | apply below_drew1) | exact HB.out)) hb); clear HO146; clear HB; have HO146 := n0_; have HB := n1_; clear n0_ n1_; (try clear hb); (try clear hb2); (try clear hk); (try clear hi)))
       go_roundg k1
       case measure => have := HK1.out; omega
       case rel => exact ⟨(y144), (wrap64 (x5_1 + (t147.size : Int))), (by first | rfl | (simp; done) | (simp [*]; done)), H', ⟨by have := HK1.out; omega⟩, ⟨by (with_reducible repeat (first | apply Kd.R_alloc | apply Kd.R_drewN | apply Kd.R_drew)); exact HO146.out⟩, ⟨by repeat (first | (with_reducible first | exact HB.out | apply below_alloc | apply pw_below_drewN | apply below_drew1) | exact HB.out)⟩⟩
      ·rw [if_neg c10] at H
       exact absurd H (by simp)
     ·replace c9 := Bool.eq_false_iff.mpr c9
      subst c9
      have H1 : (some (x4_1, x5_1)) = some (r1, r2) := by rw [if_neg (show ¬ (false = true) by decide)] at H; exact H
      clear H
      have H := H1
      clear H1
      simp only [Option.some.injEq, Prod.mk.injEq] at H
      obtain ⟨rfl, rfl⟩ := H
      go_wp2
      go_ret2
      exact ⟨_, by first | rfl | (simp [errW_none, errW_some] <;> rfl) | (simp [*, errW_none, errW_some] <;> rfl), by (with_reducible repeat (first | apply Kd.R_alloc | apply Kd.R_drewN | apply Kd.R_drew)); exact HO_4.out, by repeat (first | (with_reducible first | exact HB.out | apply below_alloc | apply pw_below_drewN | apply below_drew1) | exact HB.out)⟩
    ·rw [if_neg c5] at H
     exact absurd H (by simp)
   ·rw [if_neg c4] at H
    exact absurd H (by simp)

end Go.Proofs.YtokfpmkhfindmaaDoor.PFnExactRecords
