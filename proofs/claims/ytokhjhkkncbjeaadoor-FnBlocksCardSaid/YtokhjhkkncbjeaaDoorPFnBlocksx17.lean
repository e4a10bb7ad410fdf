-- Written by a program of this session (wip/tools/pp.py over the kit's print).
import Derived.Test.YtokhjhkkncbjeaaDoorPFnBlocksx0
import Derived.Test.YtokhjhkkncbjeaaDoorPFnBlocksx2
import Derived.Test.YtokhjhkkncbjeaaDoorPFnBlocksx6
import Derived.Test.YtokhjhkkncbjeaaDoorPFnBlocksx10
import Derived.Test.YtokhjhkkncbjeaaDoorPFnBlocksx12
namespace Go.Proofs.YtokhjhkkncbjeaaDoor.PFnBlocks
open Go.RowKit Go.Proofs.YtokhjhkkncbjeaaDoorW.PrintWords Go.Proofs.YtokhjhkkncbjeaaDoorW.PrintLast Go.Proofs.YtokhjhkkncbjeaaDoorW.PrintMore
attribute [local go_sem] max2_int min2_int max_two min_two max_three min_three max_four min_four
attribute [local go_sem high] str_gtr str_leq str_geq
set_option linter.unusedVariables false
set_option linter.unusedSimpArgs false

/-! ### laws_likeInts: function 54 -/
def laws_likeInts.l0 : Nat → List Int → List Int → Int → Option (Bool)
 | 0, _, _, _ => none
 | k + 1, x0, x1, x5 => if x5 < (x0.length : Int) then (if 0 ≤ x5 then (if x5 < (x1.length : Int) then (if (rd x0 x5) = (rd x1 x5) then (laws_likeInts.l0 k x0 x1 (wrap64 (x5 + 1))) else (some false)) else (none)) else (none)) else (some true)
def laws_likeInts.f (k : Nat) (l0 : List Int) (l1 : List Int) : Option (Bool) := if (l0.length : Int) = (l1.length : Int) then (laws_likeInts.l0 k l0 l1 0) else (some false)
theorem laws_likeInts.mono_l : ∀ k, (∀ y0 y1 y2, LeO (laws_likeInts.l0 k y0 y1 y2) (laws_likeInts.l0 (k + 1) y0 y1 y2))
 | 0 => fun _ _ _ r h => by simp [laws_likeInts.l0] at h
 | k + 1 => by
  have ih0 := laws_likeInts.mono_l k
  ·intro y0 y1 y2
   unfold laws_likeInts.l0
   repeat' with_reducible first
   | exact ih0 _ _ _
   | exact LeO.refl _
   | exact LeO.none _
   | refine LeO.ite ?_ ?_
   | refine LeO.bind ?_ (fun _ => ?_)
theorem laws_likeInts.mono : ∀ a0 a1 k, LeO (laws_likeInts.f k a0 a1) (laws_likeInts.f (k + 1) a0 a1) := by
 intro a0 a1 k
 have ih0 := laws_likeInts.mono_l k
 unfold laws_likeInts.f
 repeat' with_reducible first
   | exact ih0 _ _ _
   | exact LeO.refl _
   | exact LeO.none _
   | refine LeO.ite ?_ ?_
   | refine LeO.bind ?_ (fun _ => ?_)
set_option maxHeartbeats 8000000 in
set_option maxRecDepth 100000 in
theorem laws_likeInts.calls (k : Nat) (A0 : Option Addr) (c0 : Nat) (l0 : List Int) (A1 : Option Addr) (c1 : Nat) (l1 : List Int) (r : Bool) (w : World) (hr0 : Kd.C (Kd.int .i64) w A0 l0.length l0) (hc0 : l0.length ≤ c0) (hr1 : Kd.C (Kd.int .i64) w A1 l1.length l1) (hc1 : l1.length ≤ c1) (h : laws_likeInts.f k l0 l1 = some r) :
  Calls Tryd.prog 54 #[.slice A0 l0.length c0, .slice A1 l1.length c1] w fun e w' => e = .returned (.bool r) ∧ Drawn0 w w' := by
 have HR0 := Aside0.mk hr0
 have HC0 := Aside0.mk hc0
 clear hr0 hc0
 have HR1 := Aside0.mk hr1
 have HC1 := Aside0.mk hc1
 clear hr1 hc1
 have H : (if (l0.length : Int) = (l1.length : Int) then (laws_likeInts.l0 k l0 l1 0) else (some false)) = some r := h
 clear h
 by_cases c3 : (l0.length : Int) = (l1.length : Int)
 ·rw [if_pos c3] at H
  have c3b0 : ((l0.length : Int) == (l1.length : Int)) = true := beq_iff_eq.mpr c3
  have c3b1 : ((l0.length : Int) != (l1.length : Int)) = false := bne_eq_false_iff_eq.mpr c3
  have c3b2 : (l0.length == l1.length) = true := by first | simpa using c3 | (simp at c3 ⊢; omega)
  clear c3
  have H' := Aside0.mk H
  clear H
  go_enter Tryd.func54, Tryd.ntmps54
  go_wp2
  repeat (go_quiet (fail); try go_wp2)
  go_loopg [5] k (fun kq v5 w' => ∃ (x5_1 : Int), v5 = .int .i64 x5_1 ∧ Aside0 (laws_likeInts.l0 kq l0 l1 x5_1 = some r) ∧ Aside0 (kq ≤ k) ∧ Drawn0 w w')
  case atStart => exact ⟨(0), Z4, H', ⟨Nat.le_refl _⟩, J2⟩
  case round =>
   clear H'
   try clear c1
   try clear p2
   try clear c3
   try clear c3b0
   try clear c3b1
   try clear c3b2
   obtain ⟨x5_1, rfl, HA, HK1, ⟨m1, rfl⟩⟩ := hrel
   cases gk with
   | zero => exact absurd HA.out (by simp [laws_likeInts.l0])
   | succ k1 =>
    have H := HA.out
    clear HA
    simp only [laws_likeInts.l0] at H
    by_cases c4 : x5_1 < (l0.length : Int)
    ·rw [if_pos c4] at H
     have c4b0 : decide (x5_1 < (l0.length : Int)) = true := decide_eq_true c4
     clear c4
     by_cases c5 : 0 ≤ x5_1
     ·rw [if_pos c5] at H
      have c5b0 : decide (0 ≤ x5_1) = true := decide_eq_true c5
      clear c5
      by_cases c6 : x5_1 < (l1.length : Int)
      ·rw [if_pos c6] at H
       have c6b0 : decide (x5_1 < (l1.length : Int)) = true := decide_eq_true c6
       clear c6
       by_cases c7 : (rd l0 x5_1) = (rd l1 x5_1)
       ·rw [if_pos c7] at H
        have c7b0 : ((rd l0 x5_1) == (rd l1 x5_1)) = true := beq_iff_eq.mpr c7
        have c7b1 : ((rd l0 x5_1) != (rd l1 x5_1)) = false := bne_eq_false_iff_eq.mpr c7
        clear c7
        have H' := Aside0.mk H
        clear H
        have p591 : 0 ≤ (x5_1 : Int) := od_
        have q591 : x5_1 < (l0.length : Int) := od_
        obtain ⟨ad591, e591, hx591_0⟩ := Kd.at_int HR0.out x5_1 p591 q591
        cases e591
        replace p591 := eq_true p591
        replace q591 := eq_true q591
        have p592 : 0 ≤ (x5_1 : Int) := od_
        have q592 : x5_1 < (l1.length : Int) := od_
        obtain ⟨ad592, e592, hx592_0⟩ := Kd.at_int HR1.out x5_1 p592 q592
        cases e592
        replace p592 := eq_true p592
        replace q592 := eq_true q592
        go_wp2
        repeat (go_quiet (fail); try go_wp2)
        go_roundg k1
        case measure => have := HK1.out; omega
        case rel => exact ⟨(wrap64 (x5_1 + 1)), Z4, H', ⟨J42⟩, J2⟩
       ·rw [if_neg c7] at H
        have c7b0 : ((rd l0 x5_1) == (rd l1 x5_1)) = false := beq_eq_false_iff_ne.mpr c7
        have c7b1 : ((rd l0 x5_1) != (rd l1 x5_1)) = true := bne_iff_ne.mpr c7
        obtain rfl := Option.some.inj H
        have p591 : 0 ≤ (x5_1 : Int) := od_
        have q591 : x5_1 < (l0.length : Int) := od_
        obtain ⟨ad591, e591, hx591_0⟩ := Kd.at_int HR0.out x5_1 p591 q591
        cases e591
        replace p591 := eq_true p591
        replace q591 := eq_true q591
        have p592 : 0 ≤ (x5_1 : Int) := od_
        have q592 : x5_1 < (l1.length : Int) := od_
        obtain ⟨ad592, e592, hx592_0⟩ := Kd.at_int HR1.out x5_1 p592 q592
        cases e592
        replace p592 := eq_true p592
        replace q592 := eq_true q592
        go_wp2
        repeat (go_quiet (fail); try go_wp2)
        go_ret
        exact ⟨J6, J2⟩
      ·rw [if_neg c6] at H
       exact absurd H (by simp)
     ·rw [if_neg c5] at H
      exact absurd H (by simp)
    ·rw [if_neg c4] at H
     have c4b0 : decide (x5_1 < (l0.length : Int)) = false := decide_eq_false c4
     clear c4
     obtain rfl := Option.some.inj H
     go_wp2
     repeat (go_quiet (fail); try go_wp2)
     go_ret
     exact ⟨J6, J2⟩
 ·rw [if_neg c3] at H
  have c3b0 : ((l0.length : Int) == (l1.length : Int)) = false := beq_eq_false_iff_ne.mpr c3
  have c3b1 : ((l0.length : Int) != (l1.length : Int)) = true := bne_iff_ne.mpr c3
  have c3b2 : (l0.length == l1.length) = false := by first | simpa using c3 | (simp at c3 ⊢; omega)
  obtain rfl := Option.some.inj H
  go_enter Tryd.func54, Tryd.ntmps54
  go_wp2
  repeat (go_quiet (fail); try go_wp2)
  go_ret
  exact ⟨J6, J2⟩

/-! ### laws_likeTexts: function 31 -/
def laws_likeTexts.l0 : Nat → List ByteArray → List ByteArray → Int → Option (Bool)
 | 0, _, _, _ => none
 | k + 1, x0, x1, x5 => if x5 < (x0.length : Int) then (if 0 ≤ x5 then (if x5 < (x1.length : Int) then (if (rdOf ByteArray.empty x0 x5).toList = (rdOf ByteArray.empty x1 x5).toList then (laws_likeTexts.l0 k x0 x1 (wrap64 (x5 + 1))) else (some false)) else (none)) else (none)) else (some true)
def laws_likeTexts.f (k : Nat) (l0 : List ByteArray) (l1 : List ByteArray) : Option (Bool) := if (l0.length : Int) = (l1.length : Int) then (laws_likeTexts.l0 k l0 l1 0) else (some false)
theorem laws_likeTexts.mono_l : ∀ k, (∀ y0 y1 y2, LeO (laws_likeTexts.l0 k y0 y1 y2) (laws_likeTexts.l0 (k + 1) y0 y1 y2))
 | 0 => fun _ _ _ r h => by simp [laws_likeTexts.l0] at h
 | k + 1 => by
  have ih0 := laws_likeTexts.mono_l k
  ·intro y0 y1 y2
   unfold laws_likeTexts.l0
   repeat' with_reducible first
   | exact ih0 _ _ _
   | exact LeO.refl _
   | exact LeO.none _
   | refine LeO.ite ?_ ?_
   | refine LeO.bind ?_ (fun _ => ?_)
theorem laws_likeTexts.mono : ∀ a0 a1 k, LeO (laws_likeTexts.f k a0 a1) (laws_likeTexts.f (k + 1) a0 a1) := by
 intro a0 a1 k
 have ih0 := laws_likeTexts.mono_l k
 unfold laws_likeTexts.f
 repeat' with_reducible first
   | exact ih0 _ _ _
   | exact LeO.refl _
   | exact LeO.none _
   | refine LeO.ite ?_ ?_
   | refine LeO.bind ?_ (fun _ => ?_)
set_option maxHeartbeats 8000000 in
set_option maxRecDepth 100000 in
theorem laws_likeTexts.calls (k : Nat) (A0 : Option Addr) (c0 : Nat) (l0 : List ByteArray) (A1 : Option Addr) (c1 : Nat) (l1 : List ByteArray) (r : Bool) (w : World) (hr0 : Kd.C Kd.string w A0 l0.length l0) (hc0 : l0.length ≤ c0) (hr1 : Kd.C Kd.string w A1 l1.length l1) (hc1 : l1.length ≤ c1) (h : laws_likeTexts.f k l0 l1 = some r) :
  Calls Tryd.prog 31 #[.slice A0 l0.length c0, .slice A1 l1.length c1] w fun e w' => e = .returned (.bool r) ∧ Drawn0 w w' := by
 have HR0 := Aside0.mk hr0
 have HC0 := Aside0.mk hc0
 clear hr0 hc0
 have HR1 := Aside0.mk hr1
 have HC1 := Aside0.mk hc1
 clear hr1 hc1
 have H : (if (l0.length : Int) = (l1.length : Int) then (laws_likeTexts.l0 k l0 l1 0) else (some false)) = some r := h
 clear h
 by_cases c3 : (l0.length : Int) = (l1.length : Int)
 ·rw [if_pos c3] at H
  have c3b0 : ((l0.length : Int) == (l1.length : Int)) = true := beq_iff_eq.mpr c3
  have c3b1 : ((l0.length : Int) != (l1.length : Int)) = false := bne_eq_false_iff_eq.mpr c3
  have c3b2 : (l0.length == l1.length) = true := by first | simpa using c3 | (simp at c3 ⊢; omega)
  clear c3
  have H' := Aside0.mk H
  clear H
  go_enter Tryd.func31, Tryd.ntmps31
  go_wp2
  repeat (go_quiet (fail); try go_wp2)
  go_loopg [5] k (fun kq v5 w' => ∃ (x5_1 : Int), v5 = .int .i64 x5_1 ∧ Aside0 (laws_likeTexts.l0 kq l0 l1 x5_1 = some r) ∧ Aside0 (kq ≤ k) ∧ Drawn0 w w')
  case atStart => exact ⟨(0), Z4, H', ⟨Nat.le_refl _⟩, J2⟩
  case round =>
   clear H'
   try clear c1
   try clear p2
   try clear c3
   try clear c3b0
   try clear c3b1
   try clear c3b2
   obtain ⟨x5_1, rfl, HA, HK1, ⟨m1, rfl⟩⟩ := hrel
   cases gk with
   | zero => exact absurd HA.out (by simp [laws_likeTexts.l0])
   | succ k1 =>
    have H := HA.out
    clear HA
    simp only [laws_likeTexts.l0] at H
    by_cases c4 : x5_1 < (l0.length : Int)
    ·rw [if_pos c4] at H
     have c4b0 : decide (x5_1 < (l0.length : Int)) = true := decide_eq_true c4
     clear c4
     by_cases c5 : 0 ≤ x5_1
     ·rw [if_pos c5] at H
      have c5b0 : decide (0 ≤ x5_1) = true := decide_eq_true c5
      clear c5
      by_cases c6 : x5_1 < (l1.length : Int)
      ·rw [if_pos c6] at H
       have c6b0 : decide (x5_1 < (l1.length : Int)) = true := decide_eq_true c6
       clear c6
       by_cases c7 : (rdOf ByteArray.empty l0 x5_1).toList = (rdOf ByteArray.empty l1 x5_1).toList
       ·rw [if_pos c7] at H
        have c7b0 : ((rdOf ByteArray.empty l0 x5_1).toList == (rdOf ByteArray.empty l1 x5_1).toList) = true := beq_iff_eq.mpr c7
        have c7b1 : ((rdOf ByteArray.empty l0 x5_1).toList != (rdOf ByteArray.empty l1 x5_1).toList) = false := bne_eq_false_iff_eq.mpr c7
        clear c7
        have H' := Aside0.mk H
        clear H
        have p597 : 0 ≤ (x5_1 : Int) := od_
        have q597 : x5_1 < (l0.length : Int) := od_
        obtain ⟨ad597, e597, hx597_0⟩ := Kd.at_string HR0.out x5_1 p597 q597
        cases e597
        replace p597 := eq_true p597
        replace q597 := eq_true q597
        have p598 : 0 ≤ (x5_1 : Int) := od_
        have q598 : x5_1 < (l1.length : Int) := od_
        obtain ⟨ad598, e598, hx598_0⟩ := Kd.at_string HR1.out x5_1 p598 q598
        cases e598
        replace p598 := eq_true p598
        replace q598 := eq_true q598
        go_wp2
        repeat (go_quiet (fail); try go_wp2)
        go_roundg k1
        case measure => have := HK1.out; omega
        case rel => exact ⟨(wrap64 (x5_1 + 1)), Z4, H', ⟨J42⟩, J2⟩
       ·rw [if_neg c7] at H
        have c7b0 : ((rdOf ByteArray.empty l0 x5_1).toList == (rdOf ByteArray.empty l1 x5_1).toList) = false := beq_eq_false_iff_ne.mpr c7
        have c7b1 : ((rdOf ByteArray.empty l0 x5_1).toList != (rdOf ByteArray.empty l1 x5_1).toList) = true := bne_iff_ne.mpr c7
        obtain rfl := Option.some.inj H
        have p597 : 0 ≤ (x5_1 : Int) := od_
        have q597 : x5_1 < (l0.length : Int) := od_
        obtain ⟨ad597, e597, hx597_0⟩ := Kd.at_string HR0.out x5_1 p597 q597
        cases e597
        replace p597 := eq_true p597
        replace q597 := eq_true q597
        have p598 : 0 ≤ (x5_1 : Int) := od_
        have q598 : x5_1 < (l1.length : Int) := od_
        obtain ⟨ad598, e598, hx598_0⟩ := Kd.at_string HR1.out x5_1 p598 q598
        cases e598
        replace p598 := eq_true p598
        replace q598 := eq_true q598
        go_wp2
        repeat (go_quiet (fail); try go_wp2)
        go_ret
        exact ⟨J6, J2⟩
      ·rw [if_neg c6] at H
       exact absurd H (by simp)
     ·rw [if_neg c5] at H
      exact absurd H (by simp)
    ·rw [if_neg c4] at H
     have c4b0 : decide (x5_1 < (l0.length : Int)) = false := decide_eq_false c4
     clear c4
     obtain rfl := Option.some.inj H
     go_wp2
     repeat (go_quiet (fail); try go_wp2)
     go_ret
     exact ⟨J6, J2⟩
 ·rw [if_neg c3] at H
  have c3b0 : ((l0.length : Int) == (l1.length : Int)) = false := beq_eq_false_iff_ne.mpr c3
  have c3b1 : ((l0.length : Int) != (l1.length : Int)) = true := bne_iff_ne.mpr c3
  have c3b2 : (l0.length == l1.length) = false := by first | simpa using c3 | (simp at c3 ⊢; omega)
  obtain rfl := Option.some.inj H
  go_enter Tryd.func31, Tryd.ntmps31
  go_wp2
  repeat (go_quiet (fail); try go_wp2)
  go_ret
  exact ⟨J6, J2⟩

/-! ### impl_Digest: function 35 -/
def impl_Digest.l0 : Nat → ByteArray → Int → Int → Int → Option (Int)
 | 0, _, _, _, _ => none
 | k + 1, x0, x3, x6, x7 => if x7 < x6 then (if 0 ≤ x7 then (if x7 < (x0.size : Int) then (impl_Digest.l0 k x0 (Int.tmod (wrap64 ((wrap64 ((wrap64 (x3 * 1000003)) + (wrap64 (bt x0 x7)))) + 1)) 2147483647) x6 (wrap64 (x7 + 1))) else (none)) else (none)) else (some x3)
def impl_Digest.f (k : Nat) (a0 : ByteArray) : Option (Int) := impl_Digest.l0 k a0 1 (a0.size : Int) 0
theorem impl_Digest.mono_l : ∀ k, (∀ y0 y1 y2 y3, LeO (impl_Digest.l0 k y0 y1 y2 y3) (impl_Digest.l0 (k + 1) y0 y1 y2 y3))
 | 0 => fun _ _ _ _ r h => by simp [impl_Digest.l0] at h
 | k + 1 => by
  have ih0 := impl_Digest.mono_l k
  ·intro y0 y1 y2 y3
   unfold impl_Digest.l0
   repeat' with_reducible first
   | exact ih0 _ _ _ _
   | exact LeO.refl _
   | exact LeO.none _
   | refine LeO.ite ?_ ?_
   | refine LeO.bind ?_ (fun _ => ?_)
theorem impl_Digest.mono : ∀ a0 k, LeO (impl_Digest.f k a0) (impl_Digest.f (k + 1) a0) := by
 intro a0 k
 have ih0 := impl_Digest.mono_l k
 unfold impl_Digest.f
 repeat' with_reducible first
   | exact ih0 _ _ _ _
   | exact LeO.refl _
   | exact LeO.none _
   | refine LeO.ite ?_ ?_
   | refine LeO.bind ?_ (fun _ => ?_)
set_option maxHeartbeats 8000000 in
set_option maxRecDepth 100000 in
theorem impl_Digest.calls (k : Nat) (a0 : ByteArray) (r : Int) (w : World) (h : impl_Digest.f k a0 = some r) :
  Calls Tryd.prog 35 #[.string a0] w fun e w' => e = .returned (.int .i64 r) ∧ Drawn0 w w' := by
 have H : (impl_Digest.l0 k a0 1 (a0.size : Int) 0) = some r := h
 clear h
 have H' := Aside0.mk H
 clear H
 go_enter Tryd.func35, Tryd.ntmps35
 go_wp2
 go_loopg [3, 7] k (fun kq v3 v7 w' => ∃ (x3_1 : Int) (x7_1 : Int), v3 = .int .i64 x3_1 ∧ v7 = .int .i64 x7_1 ∧ Aside0 (impl_Digest.l0 kq a0 x3_1 (a0.size : Int) x7_1 = some r) ∧ Aside0 (kq ≤ k) ∧ Drawn0 w w')
 case atStart => exact ⟨(1), (0), Z4, Z4, H', ⟨Nat.le_refl _⟩, J2⟩
 case round =>
  clear H'
  obtain ⟨x3_1, x7_1, rfl, rfl, HA, HK1, ⟨m1, rfl⟩⟩ := hrel
  cases gk with
  | zero => exact absurd HA.out (by simp [impl_Digest.l0])
  | succ k1 =>
   have H := HA.out
   clear HA
   simp only [impl_Digest.l0] at H
   by_cases c2 : x7_1 < (a0.size : Int)
   ·rw [if_pos c2] at H
    have c2b0 : decide (x7_1 < (a0.size : Int)) = true := decide_eq_true c2
    clear c2
    by_cases c3 : 0 ≤ x7_1
    ·rw [if_pos c3] at H
     have c3b0 : decide (0 ≤ x7_1) = true := decide_eq_true c3
     clear c3
     by_cases c4 : x7_1 < (a0.size : Int)
     ·rw [if_pos c4] at H
      have c4b0 : decide (x7_1 < (a0.size : Int)) = true := decide_eq_true c4
      clear c4
      have H' := Aside0.mk H
      clear H
      have p5 : 0 ≤ (x7_1 : Int) := od_
      have q5 : x7_1 < (a0.size : Int) := od_
      have hx5 := bt_at a0 x7_1
      replace p5 := eq_true p5
      replace q5 := eq_true q5
      go_wp2
      go_roundg k1
      case measure => have := HK1.out; omega
      case rel => exact ⟨(Int.tmod (wrap64 ((wrap64 ((wrap64 (x3_1 * 1000003)) + (wrap64 (bt a0 x7_1)))) + 1)) 2147483647), (wrap64 (x7_1 + 1)), Z4, Z4, H', ⟨J42⟩, J2⟩
     ·rw [if_neg c4] at H
      exact absurd H (by simp)
    ·rw [if_neg c3] at H
     exact absurd H (by simp)
   ·rw [if_neg c2] at H
    have c2b0 : decide (x7_1 < (a0.size : Int)) = false := decide_eq_false c2
    clear c2
    obtain rfl := Option.some.inj H
    go_wp2
    go_ret
    exact ⟨J6, J2⟩

/-! ### impl_Name: function 13 -/
def impl_Name.f (k : Nat) (a0_0 : Int) (a0_1 : Int) (a0_2 : Int) (a0_3 : Int) (l0_4 : List Int) (l0_5 : List Int) (l0_6 : List ByteArray) (a0_7 : Int) : Option (Int) := (impl_ShowBlock.f k a0_0 a0_1 a0_2 a0_3 l0_4 l0_5 l0_6 a0_7).bind fun t604 => (if t604.toList = ([] : List UInt8) then (some (-1)) else ((impl_Digest.f k t604).bind fun t605 => (some (mx t605 1))))
theorem impl_Name.mono : ∀ a0 a1 a2 a3 a4 a5 a6 a7 k, LeO (impl_Name.f k a0 a1 a2 a3 a4 a5 a6 a7) (impl_Name.f (k + 1) a0 a1 a2 a3 a4 a5 a6 a7) := by
 intro a0 a1 a2 a3 a4 a5 a6 a7 k
 unfold impl_Name.f
 repeat' with_reducible first
   | exact impl_Digest.mono _ _
   | exact impl_ShowBlock.mono _ _ _ _ _ _ _ _ _
   | exact LeO.refl _
   | exact LeO.none _
   | refine LeO.ite ?_ ?_
   | refine LeO.bind ?_ (fun _ => ?_)
set_option maxHeartbeats 8000000 in
set_option maxRecDepth 100000 in
theorem impl_Name.calls (k : Nat) (a0_0 : Int) (a0_1 : Int) (a0_2 : Int) (a0_3 : Int) (A0_4 : Option Addr) (c0_4 : Nat) (l0_4 : List Int) (A0_5 : Option Addr) (c0_5 : Nat) (l0_5 : List Int) (A0_6 : Option Addr) (c0_6 : Nat) (l0_6 : List ByteArray) (a0_7 : Int) (r : Int) (w : World) (hr0_4 : Kd.C (Kd.int .i64) w A0_4 l0_4.length l0_4) (hc0_4 : l0_4.length ≤ c0_4) (hr0_5 : Kd.C (Kd.int .i64) w A0_5 l0_5.length l0_5) (hc0_5 : l0_5.length ≤ c0_5) (hr0_6 : Kd.C Kd.string w A0_6 l0_6.length l0_6) (hc0_6 : l0_6.length ≤ c0_6) (h : impl_Name.f k a0_0 a0_1 a0_2 a0_3 l0_4 l0_5 l0_6 a0_7 = some r) :
  Calls Tryd.prog 13 #[.agg #[.int .i64 a0_0, .int .i64 a0_1, .int .i64 a0_2, .int .i64 a0_3, .slice A0_4 l0_4.length c0_4, .slice A0_5 l0_5.length c0_5, .slice A0_6 l0_6.length c0_6, .int .i64 a0_7]] w fun e w' => e = .returned (.int .i64 r) ∧ Below w.heap.size w w' := by
 have hu29 := Tryd.underlying29
 have HR0_4 := Aside0.mk hr0_4
 have HC0_4 := Aside0.mk hc0_4
 clear hr0_4 hc0_4
 have HR0_5 := Aside0.mk hr0_5
 have HC0_5 := Aside0.mk hc0_5
 clear hr0_5 hc0_5
 have HR0_6 := Aside0.mk hr0_6
 have HC0_6 := Aside0.mk hc0_6
 clear hr0_6 hc0_6
 have HB := Aside0.mk (Below.refl w.heap.size w)
 have H : ((impl_ShowBlock.f k a0_0 a0_1 a0_2 a0_3 l0_4 l0_5 l0_6 a0_7).bind fun t604 => (if t604.toList = ([] : List UInt8) then (some (-1)) else ((impl_Digest.f k t604).bind fun t605 => (some (mx t605 1))))) = some r := h
 clear h
 replace H := Option.bind_eq_some_iff.mp H
 obtain ⟨t604, A20, H⟩ := H
 try dsimp only at H
 have A2 := Aside0.mk A20
 clear A20
 have HC3 := Aside0.mk H
 clear H
 go_enter Tryd.func13, Tryd.ntmps13
 go_upto_if 7 with (first | ((with_reducible refine gate_dst (N := 1) rfl ?_); refine box_event ?hg (N := 1) ?hd (cs := #[.int .i64 a0_0, .int .i64 a0_1, .int .i64 a0_2, .int .i64 a0_3, .slice A0_4 l0_4.length c0_4, .slice A0_5 l0_5.length c0_5, .slice A0_6 l0_6.length c0_6, .int .i64 a0_7]) (t := 29) ?hr ?_; (case hd => rfl); (case hg => rfl); (case hr => first | (go_simp; done) | (go_simp; rfl)); intro gb603 hg w4 hbox hb; have BK603 := Aside0.mk (hbox); have GW603 := Aside0.mk ((by rw [hg]; exact (below_size Z0) : w.heap.size ≤ gb603)); have GE603 := Aside0.mk ((by rw [hg]; exact (below_size Z0) : w.heap.size ≤ gb603)); replace HB := Aside0.mk (below_step Z0 hb); clear hb hbox hg; have hcz5_0 : w4.cell? ⟨gb603, 0, none⟩ = some (.int .i64 a0_0) := (blk_cell BK603.out 0).trans rfl; have hcz5_1 : w4.cell? ⟨gb603, 1, none⟩ = some (.int .i64 a0_1) := (blk_cell BK603.out 1).trans rfl; have hcz5_2 : w4.cell? ⟨gb603, 2, none⟩ = some (.int .i64 a0_2) := (blk_cell BK603.out 2).trans rfl; have hcz5_3 : w4.cell? ⟨gb603, 3, none⟩ = some (.int .i64 a0_3) := (blk_cell BK603.out 3).trans rfl; have hcz5_4 : w4.cell? ⟨gb603, 4, none⟩ = some (.slice A0_4 l0_4.length c0_4) := (blk_cell BK603.out 4).trans rfl; have hcz5_5 : w4.cell? ⟨gb603, 5, none⟩ = some (.slice A0_5 l0_5.length c0_5) := (blk_cell BK603.out 5).trans rfl; have hcz5_6 : w4.cell? ⟨gb603, 6, none⟩ = some (.slice A0_6 l0_6.length c0_6) := (blk_cell BK603.out 6).trans rfl; have hcz5_7 : w4.cell? ⟨gb603, 7, none⟩ = some (.int .i64 a0_7) := (blk_cell BK603.out 7).trans rfl; have hfz5_0 := blk_frozen BK603.out 0; have hfz5_1 := blk_frozen BK603.out 1; have hfz5_2 := blk_frozen BK603.out 2; have hfz5_3 := blk_frozen BK603.out 3; have hfz5_4 := blk_frozen BK603.out 4; have hfz5_5 := blk_frozen BK603.out 5; have hfz5_6 := blk_frozen BK603.out 6; have hfz5_7 := blk_frozen BK603.out 7) | ((with_reducible refine gate_callee (f := 6) rfl ?_); refine goesL_ (some 5) rfl rfl Tryd.func6 (by kernel_rfl) rfl #[.agg #[.int .i64 a0_0, .int .i64 a0_1, .int .i64 a0_2, .int .i64 a0_3, .slice A0_4 l0_4.length c0_4, .slice A0_5 l0_5.length c0_5, .slice A0_6 l0_6.length c0_6, .int .i64 a0_7]] rfl Z2 ?_; (with_reducible refine (impl_ShowBlock.calls k a0_0 a0_1 a0_2 a0_3 _ _ l0_4 _ _ l0_5 _ _ l0_6 a0_7 t604 _ ?side1 ?side2 ?side3 ?side4 ?side5 ?side6 A2.out).mono ?_); (case side1 => exact J9); (case side2 => exact HC0_4.out); (case side3 => exact J10); (case side4 => exact HC0_5.out); (case side5 => exact J15); (case side6 => exact HC0_6.out); rintro e w6 ⟨rfl, hb⟩; refine ⟨_, rfl, ?_⟩; replace BK603 := Aside0.mk (blk_below (g := gb603) (o := .cells #[.int .i64 a0_0, .int .i64 a0_1, .int .i64 a0_2, .int .i64 a0_3, .slice A0_4 l0_4.length c0_4, .slice A0_5 l0_5.length c0_5, .slice A0_6 l0_6.length c0_6, .int .i64 a0_7] 29 (0, 0)) (by (with_reducible repeat (first | refine blk_drewN ?_ _ | refine blk_drew ?_ | refine blk_alloc ?_ _)); exact BK603.out) hb); replace HB := Aside0.mk (below_step (by repeat (first | (with_reducible first | exact HB.out | apply below_alloc | apply pw_below_drewN | apply below_drew1 | refine below_set ?_ GE603.out) | exact HB.out)) hb); (try clear hb); (try clear hb2); (try clear hk); (try clear hi)))
 (try simp only [Act.put, List.setIfInBounds_toArray, List.set_cons_zero, List.set_cons_succ])
 have H := HC3.out
 clear HC3
 by_cases c7 : t604.toList = ([] : List UInt8)
 ·rw [if_pos c7] at H
  have c7b0 : (t604.toList == ([] : List UInt8)) = true := beq_iff_eq.mpr c7
  have c7b9 : (t604).toList.isEmpty = true := by rw [eq_of_beq c7b0]; rfl
  have c7b1 : (t604.toList != ([] : List UInt8)) = false := bne_eq_false_iff_eq.mpr c7
  clear c7
  (first | rw [c7b0] | (simp only [i64_w, i32_w]; rw [c7b0]) | skip)
  try rw [c7b1]
  try rw [c7b9]
  obtain rfl := Option.some.inj H
  go_wp2
  go_ret
  exact ⟨J0, J1⟩
 ·rw [if_neg c7] at H
  have c7b0 : (t604.toList == ([] : List UInt8)) = false := beq_eq_false_iff_ne.mpr c7
  have c7b9 : (t604).toList.isEmpty = false := by cases hz_ : (t604).toList with | nil => (rw [hz_] at c7b0; exact absurd c7b0 (by decide)) | cons _ _ => rfl
  have c7b1 : (t604.toList != ([] : List UInt8)) = true := bne_iff_ne.mpr c7
  (first | rw [c7b0] | (simp only [i64_w, i32_w]; rw [c7b0]) | skip)
  try rw [c7b1]
  try rw [c7b9]
  replace H := Option.bind_eq_some_iff.mp H
  obtain ⟨t605, A80, H⟩ := H
  try dsimp only at H
  have A8 := Aside0.mk A80
  clear A80
  obtain ⟨ji9, hji9⟩ : ∃ j_ : Int, (mx t605 1) = j_ := ⟨_, rfl⟩
  replace H : (some ji9) = some r := by first | (rw [hji9] at H; exact H) | (simp only [hji9] at H ⊢; exact H)
  (try rw [hji9] at A8)
  (try (have hji9l : 1 ≤ ji9 := by (rw [← hji9]; unfold mx; (repeat' split) <;> omega)))
  (try (have hji9m : 0 ≤ ji9 := by omega))
  have hji9_ : (if t605 < 1 then 1 else t605) = ji9 := hji9
  obtain rfl := Option.some.inj H
  go_wp2_with (first | ((with_reducible refine gate_callee (f := 35) rfl ?_); refine goesL_ (some 9) rfl rfl Tryd.func35 (by kernel_rfl) rfl #[.string t604] rfl Z2 ?_; (with_reducible refine (impl_Digest.calls k t604 t605 _ A8.out).mono ?_); rintro e w' ⟨rfl, ⟨nd, rfl⟩⟩; refine ⟨_, rfl, ?_⟩))
  go_ret
  exact ⟨(by first | rfl | (simp [errW_none, errW_some] <;> rfl) | (simp only [← hji9]; first | rfl | (simp [errW_none, errW_some] <;> rfl)) | (simp [*, errW_none, errW_some] <;> rfl)), J1⟩

/-! ### spec_l15NameOf: function 36 -/
def spec_l15NameOf.f (k : Nat) (a0_0 : Int) (a0_1 : Int) (a0_2 : Int) (a0_3 : Int) (l0_4 : List Int) (l0_5 : List Int) (l0_6 : List ByteArray) (a0_7 : Int) : Option (Int) := (spec_ShowBlock.f k a0_0 a0_1 a0_2 a0_3 l0_4 l0_5 l0_6 a0_7).bind fun t607 => ((spec_Digest.f k t607).bind fun t608 => ((spec_l1Max.f 1 t608).bind fun t609 => (some t609)))
theorem spec_l15NameOf.mono : ∀ a0 a1 a2 a3 a4 a5 a6 a7 k, LeO (spec_l15NameOf.f k a0 a1 a2 a3 a4 a5 a6 a7) (spec_l15NameOf.f (k + 1) a0 a1 a2 a3 a4 a5 a6 a7) := by
 intro a0 a1 a2 a3 a4 a5 a6 a7 k
 unfold spec_l15NameOf.f
 repeat' with_reducible first
   | exact spec_Digest.mono _ _
   | exact spec_ShowBlock.mono _ _ _ _ _ _ _ _ _
   | exact LeO.refl _
   | exact LeO.none _
   | refine LeO.ite ?_ ?_
   | refine LeO.bind ?_ (fun _ => ?_)
set_option maxHeartbeats 8000000 in
set_option maxRecDepth 100000 in
theorem spec_l15NameOf.calls (k : Nat) (a0_0 : Int) (a0_1 : Int) (a0_2 : Int) (a0_3 : Int) (A0_4 : Option Addr) (c0_4 : Nat) (l0_4 : List Int) (A0_5 : Option Addr) (c0_5 : Nat) (l0_5 : List Int) (A0_6 : Option Addr) (c0_6 : Nat) (l0_6 : List ByteArray) (a0_7 : Int) (r : Int) (w : World) (hr0_4 : Kd.C (Kd.int .i64) w A0_4 l0_4.length l0_4) (hc0_4 : l0_4.length ≤ c0_4) (hr0_5 : Kd.C (Kd.int .i64) w A0_5 l0_5.length l0_5) (hc0_5 : l0_5.length ≤ c0_5) (hr0_6 : Kd.C Kd.string w A0_6 l0_6.length l0_6) (hc0_6 : l0_6.length ≤ c0_6) (h : spec_l15NameOf.f k a0_0 a0_1 a0_2 a0_3 l0_4 l0_5 l0_6 a0_7 = some r) :
  Calls Tryd.prog 36 #[.agg #[.int .i64 a0_0, .int .i64 a0_1, .int .i64 a0_2, .int .i64 a0_3, .slice A0_4 l0_4.length c0_4, .slice A0_5 l0_5.length c0_5, .slice A0_6 l0_6.length c0_6, .int .i64 a0_7]] w fun e w' => e = .returned (.int .i64 r) ∧ Below w.heap.size w w' := by
 have hu29 := Tryd.underlying29
 have HR0_4 := Aside0.mk hr0_4
 have HC0_4 := Aside0.mk hc0_4
 clear hr0_4 hc0_4
 have HR0_5 := Aside0.mk hr0_5
 have HC0_5 := Aside0.mk hc0_5
 clear hr0_5 hc0_5
 have HR0_6 := Aside0.mk hr0_6
 have HC0_6 := Aside0.mk hc0_6
 clear hr0_6 hc0_6
 have HB := Aside0.mk (Below.refl w.heap.size w)
 have H : ((spec_ShowBlock.f k a0_0 a0_1 a0_2 a0_3 l0_4 l0_5 l0_6 a0_7).bind fun t607 => ((spec_Digest.f k t607).bind fun t608 => ((spec_l1Max.f 1 t608).bind fun t609 => (some t609)))) = some r := h
 clear h
 replace H := Option.bind_eq_some_iff.mp H
 obtain ⟨t607, A20, H⟩ := H
 try dsimp only at H
 have A2 := Aside0.mk A20
 clear A20
 replace H := Option.bind_eq_some_iff.mp H
 obtain ⟨t608, A30, H⟩ := H
 try dsimp only at H
 have A3 := Aside0.mk A30
 clear A30
 replace H := Option.bind_eq_some_iff.mp H
 obtain ⟨t609, A40, H⟩ := H
 replace H : (some t609) = some r := H
 have A4 := Aside0.mk A40
 clear A40
 obtain rfl := Option.some.inj H
 go_enter Tryd.func36, Tryd.ntmps36
 go_wp2_with (first | ((with_reducible refine gate_dst (N := 1) rfl ?_); refine box_event ?hg (N := 1) ?hd (cs := #[.int .i64 a0_0, .int .i64 a0_1, .int .i64 a0_2, .int .i64 a0_3, .slice A0_4 l0_4.length c0_4, .slice A0_5 l0_5.length c0_5, .slice A0_6 l0_6.length c0_6, .int .i64 a0_7]) (t := 29) ?hr ?_; (case hd => rfl); (case hg => rfl); (case hr => first | (go_simp; done) | (go_simp; rfl)); intro gb606 hg w5 hbox hb; have BK606 := Aside0.mk (hbox); have GW606 := Aside0.mk ((by rw [hg]; exact (below_size Z0) : w.heap.size ≤ gb606)); have GE606 := Aside0.mk ((by rw [hg]; exact (below_size Z0) : w.heap.size ≤ gb606)); replace HB := Aside0.mk (below_step Z0 hb); clear hb hbox hg; have hcz6_0 : w5.cell? ⟨gb606, 0, none⟩ = some (.int .i64 a0_0) := (blk_cell BK606.out 0).trans rfl; have hcz6_1 : w5.cell? ⟨gb606, 1, none⟩ = some (.int .i64 a0_1) := (blk_cell BK606.out 1).trans rfl; have hcz6_2 : w5.cell? ⟨gb606, 2, none⟩ = some (.int .i64 a0_2) := (blk_cell BK606.out 2).trans rfl; have hcz6_3 : w5.cell? ⟨gb606, 3, none⟩ = some (.int .i64 a0_3) := (blk_cell BK606.out 3).trans rfl; have hcz6_4 : w5.cell? ⟨gb606, 4, none⟩ = some (.slice A0_4 l0_4.length c0_4) := (blk_cell BK606.out 4).trans rfl; have hcz6_5 : w5.cell? ⟨gb606, 5, none⟩ = some (.slice A0_5 l0_5.length c0_5) := (blk_cell BK606.out 5).trans rfl; have hcz6_6 : w5.cell? ⟨gb606, 6, none⟩ = some (.slice A0_6 l0_6.length c0_6) := (blk_cell BK606.out 6).trans rfl; have hcz6_7 : w5.cell? ⟨gb606, 7, none⟩ = some (.int .i64 a0_7) := (blk_cell BK606.out 7).trans rfl; have hfz6_0 := blk_frozen BK606.out 0; have hfz6_1 := blk_frozen BK606.out 1; have hfz6_2 := blk_frozen BK606.out 2; have hfz6_3 := blk_frozen BK606.out 3; have hfz6_4 := blk_frozen BK606.out 4; have hfz6_5 := blk_frozen BK606.out 5; have hfz6_6 := blk_frozen BK606.out 6; have hfz6_7 := blk_frozen BK606.out 7) | ((with_reducible refine gate_callee (f := 12) rfl ?_); refine goesL_ (some 4) rfl rfl Tryd.func12 (by kernel_rfl) rfl #[.agg #[.int .i64 a0_0, .int .i64 a0_1, .int .i64 a0_2, .int .i64 a0_3, .slice A0_4 l0_4.length c0_4, .slice A0_5 l0_5.length c0_5, .slice A0_6 l0_6.length c0_6, .int .i64 a0_7]] rfl Z2 ?_; (with_reducible refine (spec_ShowBlock.calls k a0_0 a0_1 a0_2 a0_3 _ _ l0_4 _ _ l0_5 _ _ l0_6 a0_7 t607 _ ?side1 ?side2 ?side3 ?side4 ?side5 ?side6 A2.out).mono ?_); (case side1 => exact J9); (case side2 => exact HC0_4.out); (case side3 => exact J10); (case side4 => exact HC0_5.out); (case side5 => exact J15); (case side6 => exact HC0_6.out); rintro e w7 ⟨rfl, hb⟩; refine ⟨_, rfl, ?_⟩; replace BK606 := Aside0.mk (blk_below (g := gb606) (o := .cells #[.int .i64 a0_0, .int .i64 a0_1, .int .i64 a0_2, .int .i64 a0_3, .slice A0_4 l0_4.length c0_4, .slice A0_5 l0_5.length c0_5, .slice A0_6 l0_6.length c0_6, .int .i64 a0_7] 29 (0, 0)) (by (with_reducible repeat (first | refine blk_drewN ?_ _ | refine blk_drew ?_ | refine blk_alloc ?_ _)); exact BK606.out) hb); replace HB := Aside0.mk (below_step (by repeat (first | (with_reducible first | exact HB.out | apply below_alloc | apply pw_below_drewN | apply below_drew1 | refine below_set ?_ GE606.out) | exact HB.out)) hb); (try clear hb); (try clear hb2); (try clear hk); (try clear hi)) | ((with_reducible refine gate_callee (f := 56) rfl ?_); refine goesL_ (some 5) rfl rfl Tryd.func56 (by kernel_rfl) rfl #[.string t607] rfl Z2 ?_; (with_reducible refine (spec_Digest.calls k t607 t608 _ A3.out).mono ?_); rintro e w' ⟨rfl, ⟨nd, rfl⟩⟩; refine ⟨_, rfl, ?_⟩) | ((with_reducible refine gate_callee (f := 45) rfl ?_); refine goesL_ (some 6) rfl rfl Tryd.func45 (by kernel_rfl) rfl #[.int .i64 1, .int .i64 t608] rfl Z2 ?_; (with_reducible refine (spec_l1Max.calls 1 t608 t609 _ A4.out).mono ?_); rintro e w' ⟨rfl, ⟨nd, rfl⟩⟩; refine ⟨_, rfl, ?_⟩))
 go_ret
 exact ⟨J0, J1⟩

/-! ### spec_Name: function 14 -/
def spec_Name.f (k : Nat) (a0_0 : Int) (a0_1 : Int) (a0_2 : Int) (a0_3 : Int) (l0_4 : List Int) (l0_5 : List Int) (l0_6 : List ByteArray) (a0_7 : Int) : Option (Int) := (spec_ShowBlock.f k a0_0 a0_1 a0_2 a0_3 l0_4 l0_5 l0_6 a0_7).bind fun t611 => (if t611.toList = ([] : List UInt8) then (some (-1)) else ((spec_l15NameOf.f k a0_0 a0_1 a0_2 a0_3 l0_4 l0_5 l0_6 a0_7).bind fun t612 => (some t612)))
theorem spec_Name.mono : ∀ a0 a1 a2 a3 a4 a5 a6 a7 k, LeO (spec_Name.f k a0 a1 a2 a3 a4 a5 a6 a7) (spec_Name.f (k + 1) a0 a1 a2 a3 a4 a5 a6 a7) := by
 intro a0 a1 a2 a3 a4 a5 a6 a7 k
 unfold spec_Name.f
 repeat' with_reducible first
   | exact spec_ShowBlock.mono _ _ _ _ _ _ _ _ _
   | exact spec_l15NameOf.mono _ _ _ _ _ _ _ _ _
   | exact LeO.refl _
   | exact LeO.none _
   | refine LeO.ite ?_ ?_
   | refine LeO.bind ?_ (fun _ => ?_)
set_option maxHeartbeats 8000000 in
set_option maxRecDepth 100000 in
theorem spec_Name.calls (k : Nat) (a0_0 : Int) (a0_1 : Int) (a0_2 : Int) (a0_3 : Int) (A0_4 : Option Addr) (c0_4 : Nat) (l0_4 : List Int) (A0_5 : Option Addr) (c0_5 : Nat) (l0_5 : List Int) (A0_6 : Option Addr) (c0_6 : Nat) (l0_6 : List ByteArray) (a0_7 : Int) (r : Int) (w : World) (hr0_4 : Kd.C (Kd.int .i64) w A0_4 l0_4.length l0_4) (hc0_4 : l0_4.length ≤ c0_4) (hr0_5 : Kd.C (Kd.int .i64) w A0_5 l0_5.length l0_5) (hc0_5 : l0_5.length ≤ c0_5) (hr0_6 : Kd.C Kd.string w A0_6 l0_6.length l0_6) (hc0_6 : l0_6.length ≤ c0_6) (h : spec_Name.f k a0_0 a0_1 a0_2 a0_3 l0_4 l0_5 l0_6 a0_7 = some r) :
  Calls Tryd.prog 14 #[.agg #[.int .i64 a0_0, .int .i64 a0_1, .int .i64 a0_2, .int .i64 a0_3, .slice A0_4 l0_4.length c0_4, .slice A0_5 l0_5.length c0_5, .slice A0_6 l0_6.length c0_6, .int .i64 a0_7]] w fun e w' => e = .returned (.int .i64 r) ∧ Below w.heap.size w w' := by
 have hu29 := Tryd.underlying29
 have HR0_4 := Aside0.mk hr0_4
 have HC0_4 := Aside0.mk hc0_4
 clear hr0_4 hc0_4
 have HR0_5 := Aside0.mk hr0_5
 have HC0_5 := Aside0.mk hc0_5
 clear hr0_5 hc0_5
 have HR0_6 := Aside0.mk hr0_6
 have HC0_6 := Aside0.mk hc0_6
 clear hr0_6 hc0_6
 have HB := Aside0.mk (Below.refl w.heap.size w)
 have H : ((spec_ShowBlock.f k a0_0 a0_1 a0_2 a0_3 l0_4 l0_5 l0_6 a0_7).bind fun t611 => (if t611.toList = ([] : List UInt8) then (some (-1)) else ((spec_l15NameOf.f k a0_0 a0_1 a0_2 a0_3 l0_4 l0_5 l0_6 a0_7).bind fun t612 => (some t612)))) = some r := h
 clear h
 replace H := Option.bind_eq_some_iff.mp H
 obtain ⟨t611, A20, H⟩ := H
 try dsimp only at H
 have A2 := Aside0.mk A20
 clear A20
 have HC3 := Aside0.mk H
 clear H
 go_enter Tryd.func14, Tryd.ntmps14
 go_upto_if 5 with (first | ((with_reducible refine gate_dst (N := 1) rfl ?_); refine box_event ?hg (N := 1) ?hd (cs := #[.int .i64 a0_0, .int .i64 a0_1, .int .i64 a0_2, .int .i64 a0_3, .slice A0_4 l0_4.length c0_4, .slice A0_5 l0_5.length c0_5, .slice A0_6 l0_6.length c0_6, .int .i64 a0_7]) (t := 29) ?hr ?_; (case hd => rfl); (case hg => rfl); (case hr => first | (go_simp; done) | (go_simp; rfl)); intro gb610 hg w4 hbox hb; have BK610 := Aside0.mk (hbox); have GW610 := Aside0.mk ((by rw [hg]; exact (below_size Z0) : w.heap.size ≤ gb610)); have GE610 := Aside0.mk ((by rw [hg]; exact (below_size Z0) : w.heap.size ≤ gb610)); replace HB := Aside0.mk (below_step Z0 hb); clear hb hbox hg; have hcz5_0 : w4.cell? ⟨gb610, 0, none⟩ = some (.int .i64 a0_0) := (blk_cell BK610.out 0).trans rfl; have hcz5_1 : w4.cell? ⟨gb610, 1, none⟩ = some (.int .i64 a0_1) := (blk_cell BK610.out 1).trans rfl; have hcz5_2 : w4.cell? ⟨gb610, 2, none⟩ = some (.int .i64 a0_2) := (blk_cell BK610.out 2).trans rfl; have hcz5_3 : w4.cell? ⟨gb610, 3, none⟩ = some (.int .i64 a0_3) := (blk_cell BK610.out 3).trans rfl; have hcz5_4 : w4.cell? ⟨gb610, 4, none⟩ = some (.slice A0_4 l0_4.length c0_4) := (blk_cell BK610.out 4).trans rfl; have hcz5_5 : w4.cell? ⟨gb610, 5, none⟩ = some (.slice A0_5 l0_5.length c0_5) := (blk_cell BK610.out 5).trans rfl; have hcz5_6 : w4.cell? ⟨gb610, 6, none⟩ = some (.slice A0_6 l0_6.length c0_6) := (blk_cell BK610.out 6).trans rfl; have hcz5_7 : w4.cell? ⟨gb610, 7, none⟩ = some (.int .i64 a0_7) := (blk_cell BK610.out 7).trans rfl; have hfz5_0 := blk_frozen BK610.out 0; have hfz5_1 := blk_frozen BK610.out 1; have hfz5_2 := blk_frozen BK610.out 2; have hfz5_3 := blk_frozen BK610.out 3; have hfz5_4 := blk_frozen BK610.out 4; have hfz5_5 := blk_frozen BK610.out 5; have hfz5_6 := blk_frozen BK610.out 6; have hfz5_7 := blk_frozen BK610.out 7) | ((with_reducible refine gate_callee (f := 12) rfl ?_); refine goesL_ (some 4) rfl rfl Tryd.func12 (by kernel_rfl) rfl #[.agg #[.int .i64 a0_0, .int .i64 a0_1, .int .i64 a0_2, .int .i64 a0_3, .slice A0_4 l0_4.length c0_4, .slice A0_5 l0_5.length c0_5, .slice A0_6 l0_6.length c0_6, .int .i64 a0_7]] rfl Z2 ?_; (with_reducible refine (spec_ShowBlock.calls k a0_0 a0_1 a0_2 a0_3 _ _ l0_4 _ _ l0_5 _ _ l0_6 a0_7 t611 _ ?side1 ?side2 ?side3 ?side4 ?side5 ?side6 A2.out).mono ?_); (case side1 => exact J9); (case side2 => exact HC0_4.out); (case side3 => exact J10); (case side4 => exact HC0_5.out); (case side5 => exact J15); (case side6 => exact HC0_6.out); rintro e w6 ⟨rfl, hb⟩; refine ⟨_, rfl, ?_⟩; replace BK610 := Aside0.mk (blk_below (g := gb610) (o := .cells #[.int .i64 a0_0, .int .i64 a0_1, .int .i64 a0_2, .int .i64 a0_3, .slice A0_4 l0_4.length c0_4, .slice A0_5 l0_5.length c0_5, .slice A0_6 l0_6.length c0_6, .int .i64 a0_7] 29 (0, 0)) (by (with_reducible repeat (first | refine blk_drewN ?_ _ | refine blk_drew ?_ | refine blk_alloc ?_ _)); exact BK610.out) hb); replace HB := Aside0.mk (below_step J36 hb); (try clear hb); (try clear hb2); (try clear hk); (try clear hi)))
 (try simp only [Act.put, List.setIfInBounds_toArray, List.set_cons_zero, List.set_cons_succ])
 have H := HC3.out
 clear HC3
 by_cases c7 : t611.toList = ([] : List UInt8)
 ·rw [if_pos c7] at H
  have c7b0 : (t611.toList == ([] : List UInt8)) = true := beq_iff_eq.mpr c7
  have c7b9 : (t611).toList.isEmpty = true := by rw [eq_of_beq c7b0]; rfl
  have c7b1 : (t611.toList != ([] : List UInt8)) = false := bne_eq_false_iff_eq.mpr c7
  clear c7
  (first | rw [c7b0] | (simp only [i64_w, i32_w]; rw [c7b0]) | skip)
  try rw [c7b1]
  try rw [c7b9]
  obtain rfl := Option.some.inj H
  go_wp2
  go_ret
  exact ⟨J0, J36⟩
 ·rw [if_neg c7] at H
  have c7b0 : (t611.toList == ([] : List UInt8)) = false := beq_eq_false_iff_ne.mpr c7
  have c7b9 : (t611).toList.isEmpty = false := by cases hz_ : (t611).toList with | nil => (rw [hz_] at c7b0; exact absurd c7b0 (by decide)) | cons _ _ => rfl
  have c7b1 : (t611.toList != ([] : List UInt8)) = true := bne_iff_ne.mpr c7
  (first | rw [c7b0] | (simp only [i64_w, i32_w]; rw [c7b0]) | skip)
  try rw [c7b1]
  try rw [c7b9]
  replace H := Option.bind_eq_some_iff.mp H
  obtain ⟨t612, A80, H⟩ := H
  replace H : (some t612) = some r := H
  have A8 := Aside0.mk A80
  clear A80
  obtain rfl := Option.some.inj H
  have hcz9_0 : w6.cell? ⟨gb610, 0, none⟩ = some (.int .i64 a0_0) := (blk_cell BK610.out 0).trans rfl
  have hcz9_1 : w6.cell? ⟨gb610, 1, none⟩ = some (.int .i64 a0_1) := (blk_cell BK610.out 1).trans rfl
  have hcz9_2 : w6.cell? ⟨gb610, 2, none⟩ = some (.int .i64 a0_2) := (blk_cell BK610.out 2).trans rfl
  have hcz9_3 : w6.cell? ⟨gb610, 3, none⟩ = some (.int .i64 a0_3) := (blk_cell BK610.out 3).trans rfl
  have hcz9_4 : w6.cell? ⟨gb610, 4, none⟩ = some (.slice A0_4 l0_4.length c0_4) := (blk_cell BK610.out 4).trans rfl
  have hcz9_5 : w6.cell? ⟨gb610, 5, none⟩ = some (.slice A0_5 l0_5.length c0_5) := (blk_cell BK610.out 5).trans rfl
  have hcz9_6 : w6.cell? ⟨gb610, 6, none⟩ = some (.slice A0_6 l0_6.length c0_6) := (blk_cell BK610.out 6).trans rfl
  have hcz9_7 : w6.cell? ⟨gb610, 7, none⟩ = some (.int .i64 a0_7) := (blk_cell BK610.out 7).trans rfl
  have hfz9_0 := blk_frozen BK610.out 0
  have hfz9_1 := blk_frozen BK610.out 1
  have hfz9_2 := blk_frozen BK610.out 2
  have hfz9_3 := blk_frozen BK610.out 3
  have hfz9_4 := blk_frozen BK610.out 4
  have hfz9_5 := blk_frozen BK610.out 5
  have hfz9_6 := blk_frozen BK610.out 6
  have hfz9_7 := blk_frozen BK610.out 7
  go_wp2_with (first | ((with_reducible refine gate_callee (f := 36) rfl ?_); refine goesL_ (some 7) rfl rfl Tryd.func36 (by kernel_rfl) rfl #[.agg #[.int .i64 a0_0, .int .i64 a0_1, .int .i64 a0_2, .int .i64 a0_3, .slice A0_4 l0_4.length c0_4, .slice A0_5 l0_5.length c0_5, .slice A0_6 l0_6.length c0_6, .int .i64 a0_7]] rfl Z2 ?_; (with_reducible refine (spec_l15NameOf.calls k a0_0 a0_1 a0_2 a0_3 _ _ l0_4 _ _ l0_5 _ _ l0_6 a0_7 t612 _ ?side1 ?side2 ?side3 ?side4 ?side5 ?side6 A8.out).mono ?_); (case side1 => exact J9); (case side2 => exact HC0_4.out); (case side3 => exact J10); (case side4 => exact HC0_5.out); (case side5 => exact J15); (case side6 => exact HC0_6.out); rintro e w10 ⟨rfl, hb⟩; refine ⟨_, rfl, ?_⟩; replace BK610 := Aside0.mk (blk_below (g := gb610) (o := .cells #[.int .i64 a0_0, .int .i64 a0_1, .int .i64 a0_2, .int .i64 a0_3, .slice A0_4 l0_4.length c0_4, .slice A0_5 l0_5.length c0_5, .slice A0_6 l0_6.length c0_6, .int .i64 a0_7] 29 (0, 0)) (by (with_reducible repeat (first | refine blk_drewN ?_ _ | refine blk_drew ?_ | refine blk_alloc ?_ _)); exact BK610.out) hb); replace HB := Aside0.mk (below_step J36 hb); (try clear hb); (try clear hb2); (try clear hk); (try clear hi)))
  go_ret
  exact ⟨J0, J1⟩

/-! ### impl_Quorum: function 57 -/
def impl_Quorum.f (a0 : Int) : Option (Int) := if a0 = 1 then (some (wrap64 (a0 - (wrap64 (Int.tdiv (wrap64 (a0 - 1)) 3))))) else (if a0 = 4 then (some (wrap64 (a0 - (wrap64 (Int.tdiv (wrap64 (a0 - 1)) 3))))) else (if a0 = 7 then (some (wrap64 (a0 - (wrap64 (Int.tdiv (wrap64 (a0 - 1)) 3))))) else (some (-1))))
set_option maxHeartbeats 8000000 in
set_option maxRecDepth 100000 in
theorem impl_Quorum.calls (a0 : Int) (r : Int) (w : World) (h : impl_Quorum.f a0 = some r) :
  Calls Tryd.prog 57 #[.int .i64 a0] w fun e w' => e = .returned (.int .i64 r) ∧ Drawn0 w w' := by
 have H : (if a0 = 1 then (some (wrap64 (a0 - (wrap64 (Int.tdiv (wrap64 (a0 - 1)) 3))))) else (if a0 = 4 then (some (wrap64 (a0 - (wrap64 (Int.tdiv (wrap64 (a0 - 1)) 3))))) else (if a0 = 7 then (some (wrap64 (a0 - (wrap64 (Int.tdiv (wrap64 (a0 - 1)) 3))))) else (some (-1))))) = some r := h
 clear h
 by_cases c2 : a0 = 1
 ·rw [if_pos c2] at H
  have c2b0 : (a0 == 1) = true := beq_iff_eq.mpr c2
  have c2b1 : (a0 != 1) = false := bne_eq_false_iff_eq.mpr c2
  clear c2
  obtain rfl := Option.some.inj H
  go_enter Tryd.func57, Tryd.ntmps57
  go_wp2
  go_ret
  exact ⟨J6, J2⟩
 ·rw [if_neg c2] at H
  have c2b0 : (a0 == 1) = false := beq_eq_false_iff_ne.mpr c2
  have c2b1 : (a0 != 1) = true := bne_iff_ne.mpr c2
  by_cases c3 : a0 = 4
  ·rw [if_pos c3] at H
   have c3b0 : (a0 == 4) = true := beq_iff_eq.mpr c3
   have c3b1 : (a0 != 4) = false := bne_eq_false_iff_eq.mpr c3
   clear c3
   obtain rfl := Option.some.inj H
   go_enter Tryd.func57, Tryd.ntmps57
   go_wp2
   go_ret
   exact ⟨J6, J2⟩
  ·rw [if_neg c3] at H
   have c3b0 : (a0 == 4) = false := beq_eq_false_iff_ne.mpr c3
   have c3b1 : (a0 != 4) = true := bne_iff_ne.mpr c3
   by_cases c4 : a0 = 7
   ·rw [if_pos c4] at H
    have c4b0 : (a0 == 7) = true := beq_iff_eq.mpr c4
    have c4b1 : (a0 != 7) = false := bne_eq_false_iff_eq.mpr c4
    clear c4
    obtain rfl := Option.some.inj H
    go_enter Tryd.func57, Tryd.ntmps57
    go_wp2
    go_ret
    exact ⟨J6, J2⟩
   ·rw [if_neg c4] at H
    have c4b0 : (a0 == 7) = false := beq_eq_false_iff_ne.mpr c4
    have c4b1 : (a0 != 7) = true := bne_iff_ne.mpr c4
    obtain rfl := Option.some.inj H
    go_enter Tryd.func57, Tryd.ntmps57
    go_wp2
    go_ret
    exact ⟨J6, J2⟩

end Go.Proofs.YtokhjhkkncbjeaaDoor.PFnBlocks
