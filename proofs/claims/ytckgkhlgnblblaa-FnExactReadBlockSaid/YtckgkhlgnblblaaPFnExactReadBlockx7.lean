-- Written by a program of this session (wip/tools/pp.py over the kit's print).
import Derived.Test.YtckgkhlgnblblaaPFnExactReadBlockx0
namespace Go.Proofs.Ytckgkhlgnblblaa.PFnExactReadBlock
open Go.RowKit Go.Proofs.YtckgkhlgnblblaaW.PrintWords Go.Proofs.YtckgkhlgnblblaaW.PrintLast Go.Proofs.YtckgkhlgnblblaaW.PrintMore
attribute [local go_sem] max2_int min2_int max_two min_two max_three min_three max_four min_four
attribute [local go_sem high] str_gtr str_leq str_geq
set_option linter.unusedVariables false
set_option linter.unusedSimpArgs false

/-! ### impl_ReadNumber: function 153 -/
def impl_ReadNumber.l0 : Nat → Int → List Int → Int → Int → Option (Int × Int)
 | 0, _, _, _, _ => none
 | k + 1, x4, x7, x8, x9 => if x9 < x8 then (if 0 ≤ x9 then (if x9 < (x7.length : Int) then (if x9 > 5 then (some (0, 0)) else (if 0 ≤ (wrap64 (7 * x9)) then (if (rd x7 x9) < 128 then (if x9 > 0 then (if (rd x7 x9) = 0 then (some (0, 0)) else (if (Go.bits .or .i64 x4 (shl .i64 (wrap64 (Go.bits .and .u8 (rd x7 x9) 127)) (wrap64 (7 * x9)))) > 1099511627776 then (some (0, 0)) else (some (Go.bits .or .i64 x4 (shl .i64 (wrap64 (Go.bits .and .u8 (rd x7 x9) 127)) (wrap64 (7 * x9))), wrap64 (x9 + 1))))) else (if (Go.bits .or .i64 x4 (shl .i64 (wrap64 (Go.bits .and .u8 (rd x7 x9) 127)) (wrap64 (7 * x9)))) > 1099511627776 then (some (0, 0)) else (some (Go.bits .or .i64 x4 (shl .i64 (wrap64 (Go.bits .and .u8 (rd x7 x9) 127)) (wrap64 (7 * x9))), wrap64 (x9 + 1))))) else (impl_ReadNumber.l0 k (Go.bits .or .i64 x4 (shl .i64 (wrap64 (Go.bits .and .u8 (rd x7 x9) 127)) (wrap64 (7 * x9)))) x7 x8 (wrap64 (x9 + 1)))) else (none))) else (none)) else (none)) else (some (0, 0))
def impl_ReadNumber.f (k : Nat) (l0 : List Int) : Option (Int × Int) := impl_ReadNumber.l0 k 0 l0 (l0.length : Int) 0
theorem impl_ReadNumber.mono_l : ∀ k, (∀ y0 y1 y2 y3, LeO (impl_ReadNumber.l0 k y0 y1 y2 y3) (impl_ReadNumber.l0 (k + 1) y0 y1 y2 y3))
 | 0 => fun _ _ _ _ r h => by simp [impl_ReadNumber.l0] at h
 | k + 1 => by
  have ih0 := impl_ReadNumber.mono_l k
  ·intro y0 y1 y2 y3
   unfold impl_ReadNumber.l0
   repeat' first
   | (with_reducible exact ih0 _ _ _ _)
   | (with_reducible exact LeO.refl _)
   | (with_reducible exact LeO.none _)
   | (with_reducible refine LeO.ite ?_ ?_)
   | (with_reducible refine LeO.bind ?_ (fun _ => ?_))
   | exact ih0 _ _ _ _
   | exact LeO.none _
   | refine LeO.ite ?_ ?_
   | refine LeO.bind ?_ (fun _ => ?_)
theorem impl_ReadNumber.mono : ∀ a0 k, LeO (impl_ReadNumber.f k a0) (impl_ReadNumber.f (k + 1) a0) := by
 intro a0 k
 have ih0 := impl_ReadNumber.mono_l k
 unfold impl_ReadNumber.f
 repeat' first
   | (with_reducible exact ih0 _ _ _ _)
   | (with_reducible exact LeO.refl _)
   | (with_reducible exact LeO.none _)
   | (with_reducible refine LeO.ite ?_ ?_)
   | (with_reducible refine LeO.bind ?_ (fun _ => ?_))
   | exact ih0 _ _ _ _
   | exact LeO.none _
   | refine LeO.ite ?_ ?_
   | refine LeO.bind ?_ (fun _ => ?_)
set_option maxHeartbeats 8000000 in
set_option maxRecDepth 100000 in
theorem impl_ReadNumber.calls (k : Nat) (A0 : Option Addr) (c0 : Nat) (l0 : List Int) (r1 : Int) (r2 : Int) (w : World) (hr0 : Kd.C (Kd.int .u8) w A0 l0.length l0) (hc0 : l0.length ≤ c0) (h : impl_ReadNumber.f k l0 = some (r1, r2)) :
  Calls Try.prog 153 #[.slice A0 l0.length c0] w fun e w' => e = .returned (.tuple #[.int .i64 r1, .int .i64 r2]) ∧ Drawn0 w w' := by
 have HR0 := Aside0.mk hr0
 have HC0 := Aside0.mk hc0
 clear hr0 hc0
 have H : (impl_ReadNumber.l0 k 0 l0 (l0.length : Int) 0) = some (r1, r2) := h
 clear h
 have H' := Aside0.mk H
 clear H
 go_enter Try.func153, Try.ntmps153
 go_wp2
 go_loopg [4, 9] k (fun kq v4 v9 w' => ∃ (x4_1 : Int) (x9_1 : Int), v4 = .int .i64 x4_1 ∧ v9 = .int .i64 x9_1 ∧ Aside0 (impl_ReadNumber.l0 kq x4_1 l0 (l0.length : Int) x9_1 = some (r1, r2)) ∧ Aside0 (kq ≤ k) ∧ Drawn0 w w')
 case atStart => exact ⟨(0), (0), (by first | rfl | (simp; done) | (simp [*]; done)), (by first | rfl | (simp; done) | (simp [*]; done)), H', ⟨Nat.le_refl _⟩, by repeat (first | exact Drawn0.refl _ | apply Drawn0.step)⟩
 case round =>
  clear H'
  try clear c1
  obtain ⟨x4_1, x9_1, rfl, rfl, HA, HK1, ⟨m1, rfl⟩⟩ := hrel
  cases gk with
  | zero => exact absurd HA.out (by simp [impl_ReadNumber.l0])
  | succ k1 =>
   have H := HA.out
   clear HA
   simp only [impl_ReadNumber.l0] at H
   by_cases c2 : x9_1 < (l0.length : Int)
   ·rw [if_pos c2] at H
    have c2b0 : decide (x9_1 < (l0.length : Int)) = true := decide_eq_true c2
    clear c2
    by_cases c3 : 0 ≤ x9_1
    ·rw [if_pos c3] at H
     have c3b0 : decide (0 ≤ x9_1) = true := decide_eq_true c3
     clear c3
     by_cases c4 : x9_1 < (l0.length : Int)
     ·rw [if_pos c4] at H
      have c4b0 : decide (x9_1 < (l0.length : Int)) = true := decide_eq_true c4
      clear c4
      by_cases c5 : x9_1 > 5
      ·rw [if_pos c5] at H
       have c5b0 : decide (5 < x9_1) = true := decide_eq_true c5
       clear c5
       simp only [Option.some.injEq, Prod.mk.injEq] at H
       obtain ⟨rfl, rfl⟩ := H
       have p312 : 0 ≤ (x9_1 : Int) := of_decide_eq_true (by first | (with_reducible assumption) | assumption)
       have q312 : x9_1 < (l0.length : Int) := of_decide_eq_true (by first | (with_reducible assumption) | assumption)
       obtain ⟨ad312, e312, hx312_0⟩ := Kd.at_int HR0.out x9_1 p312 q312
       cases e312
       replace p312 := eq_true p312
       replace q312 := eq_true q312
       go_wp2
       go_ret2
       exact ⟨by first | rfl | (simp; done) | (simp [*]; done), by repeat (first | exact Drawn0.refl _ | apply Drawn0.step)⟩
      ·rw [if_neg c5] at H
       have c5b0 : decide (5 < x9_1) = false := decide_eq_false c5
       clear c5
       obtain ⟨ji6, hji6⟩ : ∃ j_ : Int, (wrap64 (7 * x9_1)) = j_ := ⟨_, rfl⟩
       replace H : (if 0 ≤ (ji6) then (if (rd l0 x9_1) < 128 then (if x9_1 > 0 then (if (rd l0 x9_1) = 0 then (some (0, 0)) else (if (Go.bits .or .i64 x4_1 (shl .i64 (wrap64 (Go.bits .and .u8 (rd l0 x9_1) 127)) (ji6))) > 1099511627776 then (some (0, 0)) else (some (Go.bits .or .i64 x4_1 (shl .i64 (wrap64 (Go.bits .and .u8 (rd l0 x9_1) 127)) (ji6)), wrap64 (x9_1 + 1))))) else (if (Go.bits .or .i64 x4_1 (shl .i64 (wrap64 (Go.bits .and .u8 (rd l0 x9_1) 127)) (ji6))) > 1099511627776 then (some (0, 0)) else (some (Go.bits .or .i64 x4_1 (shl .i64 (wrap64 (Go.bits .and .u8 (rd l0 x9_1) 127)) (ji6)), wrap64 (x9_1 + 1))))) else (impl_ReadNumber.l0 k1 (Go.bits .or .i64 x4_1 (shl .i64 (wrap64 (Go.bits .and .u8 (rd l0 x9_1) 127)) (ji6))) l0 (l0.length : Int) (wrap64 (x9_1 + 1)))) else (none)) = some (r1, r2) := by first | (rw [hji6] at H; exact H) | (simp only [hji6] at H ⊢; exact H)
       have hji6w : (IntKind.i64.wrap (7 * x9_1)) = ji6 := (i64_w _).trans hji6
       by_cases c7 : 0 ≤ (ji6)
       ·rw [if_pos c7] at H
        have c7b0 := eq_true c7
        have c7b1 : decide (0 ≤ (ji6)) = true := decide_eq_true c7
        clear c7
        obtain ⟨ji8, hji8⟩ : ∃ j_ : Int, (shl .i64 (wrap64 (Go.bits .and .u8 (rd l0 x9_1) 127)) (ji6)) = j_ := ⟨_, rfl⟩
        replace H : (if (rd l0 x9_1) < 128 then (if x9_1 > 0 then (if (rd l0 x9_1) = 0 then (some (0, 0)) else (if (Go.bits .or .i64 x4_1 (ji8)) > 1099511627776 then (some (0, 0)) else (some (Go.bits .or .i64 x4_1 (ji8), wrap64 (x9_1 + 1))))) else (if (Go.bits .or .i64 x4_1 (ji8)) > 1099511627776 then (some (0, 0)) else (some (Go.bits .or .i64 x4_1 (ji8), wrap64 (x9_1 + 1))))) else (impl_ReadNumber.l0 k1 (Go.bits .or .i64 x4_1 (ji8)) l0 (l0.length : Int) (wrap64 (x9_1 + 1)))) = some (r1, r2) := by first | (rw [hji8] at H; exact H) | (simp only [hji8] at H ⊢; exact H)
        have hji8_ : (IntKind.i64.wrap ((wrap64 (Go.bits .and .u8 (rd l0 x9_1) 127)) * 2 ^ min (ji6).toNat 64)) = ji8 := hji8
        have hji8z : (ji6) ≤ 64 → (IntKind.i64.wrap ((wrap64 (Go.bits .and .u8 (rd l0 x9_1) 127)) * 2 ^ (ji6).toNat)) = ji8 := shl_small hji8
        have hji8y : (wrap64 ((wrap64 (Go.bits .and .u8 (rd l0 x9_1) 127)) * 2 ^ min (ji6).toNat 64)) = ji8 := (i64_w _).symm.trans hji8_
        have hji8x : (ji6) ≤ 64 → (wrap64 ((wrap64 (Go.bits .and .u8 (rd l0 x9_1) 127)) * 2 ^ (ji6).toNat)) = ji8 := fun h_ => (i64_w _).symm.trans (hji8z h_)
        by_cases c9 : (rd l0 x9_1) < 128
        ·rw [if_pos c9] at H
         have c9b0 : decide ((rd l0 x9_1) < 128) = true := decide_eq_true c9
         clear c9
         by_cases c10 : x9_1 > 0
         ·rw [if_pos c10] at H
          have c10b0 : decide (0 < x9_1) = true := decide_eq_true c10
          clear c10
          by_cases c11 : (rd l0 x9_1) = 0
          ·rw [if_pos c11] at H
           have c11b0 : ((rd l0 x9_1) == 0) = true := beq_iff_eq.mpr c11
           have c11b1 : ((rd l0 x9_1) != 0) = false := bne_eq_false_iff_eq.mpr c11
           clear c11
           simp only [Option.some.injEq, Prod.mk.injEq] at H
           obtain ⟨rfl, rfl⟩ := H
           have p312 : 0 ≤ (x9_1 : Int) := of_decide_eq_true (by first | (with_reducible assumption) | assumption)
           have q312 : x9_1 < (l0.length : Int) := of_decide_eq_true (by first | (with_reducible assumption) | assumption)
           obtain ⟨ad312, e312, hx312_0⟩ := Kd.at_int HR0.out x9_1 p312 q312
           cases e312
           replace p312 := eq_true p312
           replace q312 := eq_true q312
           go_wp2
           go_ret2
           exact ⟨by first | rfl | (simp; done) | (simp only [← hji6, ← hji8] <;> (first | rfl | simp)) | (simp [*]; done), by repeat (first | exact Drawn0.refl _ | apply Drawn0.step)⟩
          ·rw [if_neg c11] at H
           have c11b0 : ((rd l0 x9_1) == 0) = false := beq_eq_false_iff_ne.mpr c11
           have c11b1 : ((rd l0 x9_1) != 0) = true := bne_iff_ne.mpr c11
           by_cases c12 : (Go.bits .or .i64 x4_1 (ji8)) > 1099511627776
           ·rw [if_pos c12] at H
            have c12b0 : decide (1099511627776 < (Go.bits .or .i64 x4_1 (ji8))) = true := decide_eq_true c12
            clear c12
            simp only [Option.some.injEq, Prod.mk.injEq] at H
            obtain ⟨rfl, rfl⟩ := H
            have p312 : 0 ≤ (x9_1 : Int) := of_decide_eq_true (by first | (with_reducible assumption) | assumption)
            have q312 : x9_1 < (l0.length : Int) := of_decide_eq_true (by first | (with_reducible assumption) | assumption)
            obtain ⟨ad312, e312, hx312_0⟩ := Kd.at_int HR0.out x9_1 p312 q312
            cases e312
            replace p312 := eq_true p312
            replace q312 := eq_true q312
            go_wp2
            go_ret2
            exact ⟨by first | rfl | (simp; done) | (simp only [← hji6, ← hji8] <;> (first | rfl | simp)) | (simp [*]; done), by repeat (first | exact Drawn0.refl _ | apply Drawn0.step)⟩
           ·rw [if_neg c12] at H
            have c12b0 : decide (1099511627776 < (Go.bits .or .i64 x4_1 (ji8))) = false := decide_eq_false c12
            clear c12
            simp only [Option.some.injEq, Prod.mk.injEq] at H
            obtain ⟨rfl, rfl⟩ := H
            have p312 : 0 ≤ (x9_1 : Int) := of_decide_eq_true (by first | (with_reducible assumption) | assumption)
            have q312 : x9_1 < (l0.length : Int) := of_decide_eq_true (by first | (with_reducible assumption) | assumption)
            obtain ⟨ad312, e312, hx312_0⟩ := Kd.at_int HR0.out x9_1 p312 q312
            cases e312
            replace p312 := eq_true p312
            replace q312 := eq_true q312
            go_wp2
            go_ret2
            exact ⟨by first | rfl | (simp; done) | (simp only [← hji6, ← hji8] <;> (first | rfl | simp)) | (simp [*]; done), by repeat (first | exact Drawn0.refl _ | apply Drawn0.step)⟩
         ·rw [if_neg c10] at H
          have c10b0 : decide (0 < x9_1) = false := decide_eq_false c10
          clear c10
          by_cases c13 : (Go.bits .or .i64 x4_1 (ji8)) > 1099511627776
          ·rw [if_pos c13] at H
           have c13b0 : decide (1099511627776 < (Go.bits .or .i64 x4_1 (ji8))) = true := decide_eq_true c13
           clear c13
           simp only [Option.some.injEq, Prod.mk.injEq] at H
           obtain ⟨rfl, rfl⟩ := H
           have p312 : 0 ≤ (x9_1 : Int) := of_decide_eq_true (by first | (with_reducible assumption) | assumption)
           have q312 : x9_1 < (l0.length : Int) := of_decide_eq_true (by first | (with_reducible assumption) | assumption)
           obtain ⟨ad312, e312, hx312_0⟩ := Kd.at_int HR0.out x9_1 p312 q312
           cases e312
           replace p312 := eq_true p312
           replace q312 := eq_true q312
           go_wp2
           go_ret2
           exact ⟨by first | rfl | (simp; done) | (simp only [← hji6, ← hji8] <;> (first | rfl | simp)) | (simp [*]; done), by repeat (first | exact Drawn0.refl _ | apply Drawn0.step)⟩
          ·rw [if_neg c13] at H
           have c13b0 : decide (1099511627776 < (Go.bits .or .i64 x4_1 (ji8))) = false := decide_eq_false c13
           clear c13
           simp only [Option.some.injEq, Prod.mk.injEq] at H
           obtain ⟨rfl, rfl⟩ := H
           have p312 : 0 ≤ (x9_1 : Int) := of_decide_eq_true (by first | (with_reducible assumption) | assumption)
           have q312 : x9_1 < (l0.length : Int) := of_decide_eq_true (by first | (with_reducible assumption) | assumption)
           obtain ⟨ad312, e312, hx312_0⟩ := Kd.at_int HR0.out x9_1 p312 q312
           cases e312
           replace p312 := eq_true p312
           replace q312 := eq_true q312
           go_wp2
           go_ret2
           exact ⟨by first | rfl | (simp; done) | (simp only [← hji6, ← hji8] <;> (first | rfl | simp)) | (simp [*]; done), by repeat (first | exact Drawn0.refl _ | apply Drawn0.step)⟩
        ·rw [if_neg c9] at H
         have c9b0 : decide ((rd l0 x9_1) < 128) = false := decide_eq_false c9
         clear c9
         have H' := Aside0.mk H
         clear H
         have p312 : 0 ≤ (x9_1 : Int) := of_decide_eq_true (by first | (with_reducible assumption) | assumption)
         have q312 : x9_1 < (l0.length : Int) := of_decide_eq_true (by first | (with_reducible assumption) | assumption)
         obtain ⟨ad312, e312, hx312_0⟩ := Kd.at_int HR0.out x9_1 p312 q312
         cases e312
         replace p312 := eq_true p312
         replace q312 := eq_true q312
         go_wp2
         go_roundg k1
         case measure => have := HK1.out; omega
         case rel => exact ⟨(Go.bits .or .i64 x4_1 (ji8)), (wrap64 (x9_1 + 1)), (by first | rfl | (simp; done) | (simp only [← hji8] <;> (first | rfl | simp)) | (simp [*]; done)), (by first | rfl | (simp; done) | (simp [*]; done)), H', ⟨by have := HK1.out; omega⟩, by repeat (first | exact Drawn0.refl _ | apply Drawn0.step)⟩
       ·rw [if_neg c7] at H
        exact absurd H (by simp)
     ·rw [if_neg c4] at H
      exact absurd H (by simp)
    ·rw [if_neg c3] at H
     exact absurd H (by simp)
   ·rw [if_neg c2] at H
    have c2b0 : decide (x9_1 < (l0.length : Int)) = false := decide_eq_false c2
    clear c2
    simp only [Option.some.injEq, Prod.mk.injEq] at H
    obtain ⟨rfl, rfl⟩ := H
    go_wp2
    go_ret2
    exact ⟨by first | rfl | (simp; done) | (simp [*]; done), by repeat (first | exact Drawn0.refl _ | apply Drawn0.step)⟩

-- NOT PRINTED: function 154 (impl_cursor_goes)

-- NOT PRINTED: function 103 (impl_cursor_number)

/-! ### impl_ReadText: function 167 -/
def impl_ReadText.f (k : Nat) (l0 : List Int) : Option (ByteArray × Int) := (impl_ReadNumber.f k l0).bind fun bt315 => (if bt315.2 = 0 then (some ((⟨#[]⟩ : ByteArray), 0)) else (if bt315.1 > 3000 then (some ((⟨#[]⟩ : ByteArray), 0)) else (if bt315.1 > (wrap64 ((l0.length : Int) - bt315.2)) then (some ((⟨#[]⟩ : ByteArray), 0)) else (if 0 ≤ bt315.2 then (if bt315.2 ≤ (wrap64 (bt315.2 + bt315.1)) then (if (wrap64 (bt315.2 + bt315.1)) ≤ (l0.length : Int) then (some (strOfNums ((l0.take ((wrap64 (bt315.2 + bt315.1)) : Int).toNat).drop (bt315.2 : Int).toNat), wrap64 (bt315.2 + bt315.1))) else (none)) else (none)) else (none)))))
theorem impl_ReadText.mono : ∀ a0 k, LeO (impl_ReadText.f k a0) (impl_ReadText.f (k + 1) a0) := by
 intro a0 k
 unfold impl_ReadText.f
 repeat' first
   | (with_reducible exact impl_ReadNumber.mono _ _)
   | (with_reducible exact LeO.refl _)
   | (with_reducible exact LeO.none _)
   | (with_reducible refine LeO.ite ?_ ?_)
   | (with_reducible refine LeO.bind ?_ (fun _ => ?_))
   | exact impl_ReadNumber.mono _ _
   | exact LeO.none _
   | refine LeO.ite ?_ ?_
   | refine LeO.bind ?_ (fun _ => ?_)
set_option maxHeartbeats 8000000 in
set_option maxRecDepth 100000 in
theorem impl_ReadText.calls (k : Nat) (A0 : Option Addr) (c0 : Nat) (l0 : List Int) (r1 : ByteArray) (r2 : Int) (w : World) (hr0 : Kd.C (Kd.int .u8) w A0 l0.length l0) (hc0 : l0.length ≤ c0) (h : impl_ReadText.f k l0 = some (r1, r2)) :
  Calls Try.prog 167 #[.slice A0 l0.length c0] w fun e w' => e = .returned (.tuple #[.string r1, .int .i64 r2]) ∧ Drawn0 w w' := by
 have HR0 := Aside0.mk hr0
 have HC0 := Aside0.mk hc0
 clear hr0 hc0
 have H : ((impl_ReadNumber.f k l0).bind fun bt315 => (if bt315.2 = 0 then (some ((⟨#[]⟩ : ByteArray), 0)) else (if bt315.1 > 3000 then (some ((⟨#[]⟩ : ByteArray), 0)) else (if bt315.1 > (wrap64 ((l0.length : Int) - bt315.2)) then (some ((⟨#[]⟩ : ByteArray), 0)) else (if 0 ≤ bt315.2 then (if bt315.2 ≤ (wrap64 (bt315.2 + bt315.1)) then (if (wrap64 (bt315.2 + bt315.1)) ≤ (l0.length : Int) then (some (strOfNums ((l0.take ((wrap64 (bt315.2 + bt315.1)) : Int).toNat).drop (bt315.2 : Int).toNat), wrap64 (bt315.2 + bt315.1))) else (none)) else (none)) else (none)))))) = some (r1, r2) := h
 clear h
 replace H := Option.bind_eq_some_iff.mp H
 obtain ⟨⟨t315, t316⟩, A20, H⟩ := H
 replace H : (if t316 = 0 then (some ((⟨#[]⟩ : ByteArray), 0)) else (if t315 > 3000 then (some ((⟨#[]⟩ : ByteArray), 0)) else (if t315 > (wrap64 ((l0.length : Int) - t316)) then (some ((⟨#[]⟩ : ByteArray), 0)) else (if 0 ≤ t316 then (if t316 ≤ (wrap64 (t316 + t315)) then (if (wrap64 (t316 + t315)) ≤ (l0.length : Int) then (some (strOfNums ((l0.take ((wrap64 (t316 + t315)) : Int).toNat).drop (t316 : Int).toNat), wrap64 (t316 + t315))) else (none)) else (none)) else (none))))) = some (r1, r2) := H
 have A2 := Aside0.mk A20
 clear A20
 by_cases c3 : t316 = 0
 ·rw [if_pos c3] at H
  have c3b0 : (t316 == 0) = true := beq_iff_eq.mpr c3
  have c3b1 : (t316 != 0) = false := bne_eq_false_iff_eq.mpr c3
  clear c3
  simp only [Option.some.injEq, Prod.mk.injEq] at H
  obtain ⟨rfl, rfl⟩ := H
  go_enter Try.func167, Try.ntmps167
  go_wp2_with (first | ((with_reducible refine gate_callee (f := 153) rfl ?_); refine goesL_ (some 8) rfl rfl Try.func153 (by kernel_rfl) rfl #[.slice A0 l0.length c0] rfl (by (try simp only [List.map_toArray, List.map_cons, List.map_nil]); first | done | rfl | (simp only [List.length_drop, List.length_take]; rfl)) ?_; (with_reducible refine (impl_ReadNumber.calls k _ _ l0 t315 t316 _ ?side1 ?side2 A2.out).mono ?_); (case side1 => repeat (first | exact HR0.out | (with_reducible refine Kd.C_alloc ?_ _) | (with_reducible refine Kd.C_drewN ?_ _) | (with_reducible refine Kd.C_drew ?_))); (case side2 => exact HC0.out); rintro e w' ⟨rfl, ⟨nd, rfl⟩⟩; refine ⟨_, rfl, ?_⟩))
  go_ret2
  exact ⟨by first | rfl | (simp; done) | (simp [*]; done), by repeat (first | exact Drawn0.refl _ | apply Drawn0.step)⟩
 ·rw [if_neg c3] at H
  have c3b0 : (t316 == 0) = false := beq_eq_false_iff_ne.mpr c3
  have c3b1 : (t316 != 0) = true := bne_iff_ne.mpr c3
  by_cases c4 : t315 > 3000
  ·rw [if_pos c4] at H
   have c4b0 : decide (3000 < t315) = true := decide_eq_true c4
   clear c4
   simp only [Option.some.injEq, Prod.mk.injEq] at H
   obtain ⟨rfl, rfl⟩ := H
   go_enter Try.func167, Try.ntmps167
   go_wp2_with (first | ((with_reducible refine gate_callee (f := 153) rfl ?_); refine goesL_ (some 8) rfl rfl Try.func153 (by kernel_rfl) rfl #[.slice A0 l0.length c0] rfl (by (try simp only [List.map_toArray, List.map_cons, List.map_nil]); first | done | rfl | (simp only [List.length_drop, List.length_take]; rfl)) ?_; (with_reducible refine (impl_ReadNumber.calls k _ _ l0 t315 t316 _ ?side1 ?side2 A2.out).mono ?_); (case side1 => repeat (first | exact HR0.out | (with_reducible refine Kd.C_alloc ?_ _) | (with_reducible refine Kd.C_drewN ?_ _) | (with_reducible refine Kd.C_drew ?_))); (case side2 => exact HC0.out); rintro e w' ⟨rfl, ⟨nd, rfl⟩⟩; refine ⟨_, rfl, ?_⟩))
   go_ret2
   exact ⟨by first | rfl | (simp; done) | (simp [*]; done), by repeat (first | exact Drawn0.refl _ | apply Drawn0.step)⟩
  ·rw [if_neg c4] at H
   have c4b0 : decide (3000 < t315) = false := decide_eq_false c4
   clear c4
   have HC5 := Aside0.mk H
   clear H
   go_enter Try.func167, Try.ntmps167
   go_upto_if 24 with (first | ((with_reducible refine gate_callee (f := 153) rfl ?_); refine goesL_ (some 8) rfl rfl Try.func153 (by kernel_rfl) rfl #[.slice A0 l0.length c0] rfl (by (try simp only [List.map_toArray, List.map_cons, List.map_nil]); first | done | rfl | (simp only [List.length_drop, List.length_take]; rfl)) ?_; (with_reducible refine (impl_ReadNumber.calls k _ _ l0 t315 t316 _ ?side1 ?side2 A2.out).mono ?_); (case side1 => repeat (first | exact HR0.out | (with_reducible refine Kd.C_alloc ?_ _) | (with_reducible refine Kd.C_drewN ?_ _) | (with_reducible refine Kd.C_drew ?_))); (case side2 => exact HC0.out); rintro e w' ⟨rfl, ⟨nd, rfl⟩⟩; refine ⟨_, rfl, ?_⟩))
   (try simp only [Act.put, List.setIfInBounds_toArray, List.set_cons_zero, List.set_cons_succ])
   have H := HC5.out
   clear HC5
   by_cases c6 : t315 > (wrap64 ((l0.length : Int) - t316))
   ·rw [if_pos c6] at H
    have c6b0 : decide ((wrap64 ((l0.length : Int) - t316)) < t315) = true := decide_eq_true c6
    clear c6
    (first | rw [c6b0] | (simp only [i64_w, i32_w]; rw [c6b0]) | skip)
    simp only [Option.some.injEq, Prod.mk.injEq] at H
    obtain ⟨rfl, rfl⟩ := H
    go_wp2
    go_ret2
    exact ⟨by first | rfl | (simp; done) | (simp [*]; done), by repeat (first | exact Drawn0.refl _ | apply Drawn0.step)⟩
   ·rw [if_neg c6] at H
    have c6b0 : decide ((wrap64 ((l0.length : Int) - t316)) < t315) = false := decide_eq_false c6
    clear c6
    (first | rw [c6b0] | (simp only [i64_w, i32_w]; rw [c6b0]) | skip)
    by_cases c7 : 0 ≤ t316
    ·rw [if_pos c7] at H
     have c7b0 := eq_true c7
     have c7b1 : decide (0 ≤ t316) = true := decide_eq_true c7
     clear c7
     by_cases c8 : t316 ≤ (wrap64 (t316 + t315))
     ·rw [if_pos c8] at H
      have c8b0 := eq_true c8
      have c8b1 : decide (t316 ≤ (wrap64 (t316 + t315))) = true := decide_eq_true c8
      by_cases c9 : (wrap64 (t316 + t315)) ≤ (l0.length : Int)
      ·rw [if_pos c9] at H
       have c9b0 := eq_true c9
       have c9b1 : decide ((wrap64 (t316 + t315)) ≤ (l0.length : Int)) = true := decide_eq_true c9
       simp only [Option.some.injEq, Prod.mk.injEq] at H
       obtain ⟨rfl, rfl⟩ := H
       obtain ⟨i010, hi010, _, hsz10, _⟩ := info_parts info5
       obtain ⟨A10, hcut10, hA10, hC10⟩ := print_mid_of (P := Try.prog) (Value.int .u8) 0 83 5 .i64 .i64 Try.underlying83 hi010 hsz10 A0 c0 l0 t316 (wrap64 (t316 + t315)) (of_decide_eq_true (by first | (with_reducible assumption) | assumption)) (by first | omega | exact of_decide_eq_true (by first | (with_reducible assumption) | assumption)) (of_decide_eq_true (by first | (with_reducible assumption) | assumption)) HC0.out
       have HR317 := Aside0.mk (Kd.C_of_reads (h1 := fun _ => rfl) (hA10 _ (Kd.reads_of_C HR0.out)))
       have HC317 := Aside0.mk hC10
       clear hA10 hC10 hi010 hsz10
       have hcv11 := Kd.C_string (P := Try.prog) (A := A10) (c := (c0 - t316.toNat)) Try.underlying83 Try.underlying5 Try.underlying9 HR317.out
       have hmn12 := Nat.min_eq_left (Int.toNat_le.2 (of_decide_eq_true (p := (wrap64 (t316 + t315)) ≤ (l0.length : Int)) (by first | (with_reducible assumption) | assumption)))
       have hcn12 := fun (n_ : Nat) => Kd.C_string (P := Try.prog) (A := A10) (c := (c0 - t316.toNat)) Try.underlying83 Try.underlying5 Try.underlying9 (Kd.C_drewN HR317.out n_)
       try simp only [List.length_drop, List.length_take, hmn12] at hcn12
       go_wp2
       go_ret2
       exact ⟨by first | rfl | (simp; done) | (simp [*]; done), by repeat (first | exact Drawn0.refl _ | apply Drawn0.step)⟩
      ·rw [if_neg c9] at H
       exact absurd H (by simp)
     ·rw [if_neg c8] at H
      exact absurd H (by simp)
    ·rw [if_neg c7] at H
     exact absurd H (by simp)

-- NOT PRINTED: function 155 (impl_cursor_text)

-- NOT PRINTED: function 104 (impl_cursor_texts)

/-- A state of type 135 at block g of W; what its slices lead to came in by w0. -/
def IsS135 (w0 W : World) (g : Nat) (f0 : List Int) (f1 : Bool) : Prop := ∃ A0 c0, W.heap[g]? = some (.cells #[.slice A0 f0.length c0, .bool f1] 135 (0, 0)) ∧ w0.heap.size ≤ g ∧ Kd.C (Kd.int .u8) w0 A0 f0.length f0
theorem IsS135.grown {w0 W : World} {g : Nat} {f0 : List Int} {f1 : Bool} {W1 : World} {row : Option Nat} (h : IsS135 w0 W g f0 f1) (hw : W.grownBy W1 row) (hne : some g ≠ row) : IsS135 w0 W1 g f0 f1 := by
 obtain ⟨A0, c0, hb, hg, hr0⟩ := h
 exact ⟨A0, c0, blk_grown hb hw hne, hg, hr0⟩
theorem IsS135.own_neN {w0 W : World} {g : Nat} {f0 : List Int} {f1 : Bool} {α : Type} {d : Kd α} {e : Nat} {base : Nat} {ok : Nat → Prop} {v : Value} {xs : List α} (h : IsS135 w0 W g f0 f1) (ho : Kd.N d e W base ok v xs) (ht : e ≠ 135) : some g ≠ v.ownBlock := by
 obtain ⟨A0, c0, hb, hg, hr0⟩ := h
 exact Kd.N_ne ho hb ht
theorem IsS135.fresh {w0 W : World} {g : Nat} {f0 : List Int} {f1 : Bool} (h : IsS135 w0 W g f0 f1) : ∀ k, W.heap.size ≤ k → k ≠ g := by
 obtain ⟨A0, c0, hb, hg, hr0⟩ := h
 exact Kd.freshB hb
theorem IsS135.kept {w0 W : World} {g : Nat} {f0 : List Int} {f1 : Bool} {W1 : World} {S : Nat → Prop} (h : IsS135 w0 W g f0 f1) (hk : Kept W W1 S) (hne : ¬ S g) : IsS135 w0 W1 g f0 f1 := by
 obtain ⟨A0, c0, hb, hg, hr0⟩ := h
 exact ⟨A0, c0, blk_kept hb hk hne, hg, hr0⟩
theorem IsS135.below {w0 W : World} {g : Nat} {f0 : List Int} {f1 : Bool} {W1 : World} (h : IsS135 w0 W g f0 f1) (hw : Below W.heap.size W W1) : IsS135 w0 W1 g f0 f1 := h.grown (grown_of_below hw none) (by simp)
theorem IsS135.alloc {w0 W : World} {g : Nat} {f0 : List Int} {f1 : Bool} (h : IsS135 w0 W g f0 f1) (o : Obj) : IsS135 w0 (W.alloc o) g f0 f1 := h.below (below_alloc (Below.refl _ _) o)
theorem IsS135.drewN {w0 W : World} {g : Nat} {f0 : List Int} {f1 : Bool} (h : IsS135 w0 W g f0 f1) (m : Nat) : IsS135 w0 (W.drewN m) g f0 f1 := h
theorem IsS135.drew {w0 W : World} {g : Nat} {f0 : List Int} {f1 : Bool} (h : IsS135 w0 W g f0 f1) : IsS135 w0 W.drew g f0 f1 := h
theorem IsS135.at_ {w0 W : World} {g : Nat} {f0 : List Int} {f1 : Bool} {w' : World} {m : Nat} (hq : W.drewN m = w') (h : IsS135 w0 W g f0 f1) : IsS135 w0 w' g f0 f1 := by subst hq; exact IsS135.drewN h m
theorem IsS135.apart {w0 W : World} {g : Nat} {f0 : List Int} {f1 : Bool} {α : Type} {d : Kd α} {e : Nat} {base : Nat} {ok : Nat → Prop} {v : Value} {xs : List α} (h : IsS135 w0 W g f0 f1) (ho : d.R e W base ok v xs) (ht : ∀ q, q ∈ e :: d.E → q ≠ 135) : d.R e W base (fun k => ok k ∧ k ≠ g) v xs := by
 obtain ⟨A0, c0, hb, hg, hr0⟩ := h
 exact Kd.R_types ho hb ht
theorem IsS135.own_ne {w0 W : World} {g : Nat} {f0 : List Int} {f1 : Bool} {α : Type} {d : Kd α} {e : Nat} {base : Nat} {ok : Nat → Prop} {v : Value} {xs : List α} (h : IsS135 w0 W g f0 f1) (ho : d.R e W base ok v xs) (ht : e ≠ 135) : some g ≠ v.ownBlock := by
 obtain ⟨A0, c0, hb, hg, hr0⟩ := h
 exact Kd.R_ne ho hb ht
theorem IsS135.apartQ {w0 W : World} {g : Nat} {f0 : List Int} {f1 : Bool} {α : Type} {d : Kd α} {e : Nat} {base : Nat} {ok : Nat → Prop} {v : Value} {xs : List α} (h : IsS135 w0 W g f0 f1) (ho : d.Q e W base ok v xs) (ht : ∀ q, q ∈ e :: d.E → q ≠ 135) : d.Q e W base (fun k => ok k ∧ k ≠ g) v xs := by
 obtain ⟨A0, c0, hb, hg, hr0⟩ := h
 exact Kd.Q_types ho hb ht
theorem IsS135.own_neQ {w0 W : World} {g : Nat} {f0 : List Int} {f1 : Bool} {α : Type} {d : Kd α} {e : Nat} {base : Nat} {ok : Nat → Prop} {v : Value} {xs : List α} (h : IsS135 w0 W g f0 f1) (ho : d.Q e W base ok v xs) (ht : e ≠ 135) : some g ≠ v.ownBlock := by
 obtain ⟨A0, c0, hb, hg, hr0⟩ := h
 exact Kd.Q_ne ho hb ht
theorem IsS135.apartS {w0 W : World} {g : Nat} {f0 : List Int} {f1 : Bool} {α : Type} {d : Kd α} {e : Nat} {base : Nat} {ok : Nat → Prop} {v : Value} {xs : List α} (h : IsS135 w0 W g f0 f1) (ho : d.S e W base ok v xs) (ht : ∀ q, q ∈ e :: d.E → q ≠ 135) : d.S e W base (fun k => ok k ∧ k ≠ g) v xs := by
 obtain ⟨A0, c0, hb, hg, hr0⟩ := h
 exact Kd.S_types ho hb ht
theorem IsS135.own_neS {w0 W : World} {g : Nat} {f0 : List Int} {f1 : Bool} {α : Type} {d : Kd α} {e : Nat} {base : Nat} {ok : Nat → Prop} {v : Value} {xs : List α} (h : IsS135 w0 W g f0 f1) (ho : d.S e W base ok v xs) (ht : e ≠ 135) : some g ≠ v.ownBlock := by
 obtain ⟨A0, c0, hb, hg, hr0⟩ := h
 exact Kd.S_ne ho hb ht
theorem IsS135.lt {w0 W : World} {g : Nat} {f0 : List Int} {f1 : Bool} (h : IsS135 w0 W g f0 f1) : g < W.heap.size := by
 obtain ⟨A0, c0, hb, hg, hr0⟩ := h
 exact blk_lt hb
theorem IsS135.ge {w0 W : World} {g : Nat} {f0 : List Int} {f1 : Bool} (h : IsS135 w0 W g f0 f1) : w0.heap.size ≤ g := by
 obtain ⟨A0, c0, hb, hg, hr0⟩ := h
 exact hg
theorem IsS135.ne_blk {w0 W : World} {g : Nat} {f0 : List Int} {f1 : Bool} {a : Nat} {cs : Array Value} {t : TypeId} {fr : Nat × Nat} (h : IsS135 w0 W g f0 f1) (hb2 : W.heap[a]? = some (.cells cs t fr)) (ht : t ≠ 135) : g ≠ a := by
 obtain ⟨A0, c0, hb, hg, hr0⟩ := h
 rintro rfl
 rw [hb] at hb2
 injection hb2 with hb2
 injection hb2 with _ ht2
 exact ht ht2.symm
theorem IsS135.far {w0 W : World} {g : Nat} {f0 : List Int} {f1 : Bool} {p : Addr} (h : IsS135 w0 W g f0 f1) (hne : g ≠ p.block) (u : Value) : IsS135 w0 (W.setCell p u) g f0 f1 := by
 obtain ⟨A0, c0, hb, hg, hr0⟩ := h
 exact ⟨A0, c0, blk_far hb hne u, hg, hr0⟩
theorem cellS135_0 {W : World} {g : Nat} {A0 : Option Addr} {c0 : Nat} {f0 : List Int} {f1 : Bool} (h : W.heap[g]? = some (.cells #[.slice A0 f0.length c0, .bool f1] 135 (0, 0))) : W.cell? ⟨g, 0, none⟩ = some (.slice A0 f0.length c0) := (blk_cell h 0).trans rfl
theorem cellS135_1 {W : World} {g : Nat} {A0 : Option Addr} {c0 : Nat} {f0 : List Int} {f1 : Bool} (h : W.heap[g]? = some (.cells #[.slice A0 f0.length c0, .bool f1] 135 (0, 0))) : W.cell? ⟨g, 1, none⟩ = some (.bool f1) := (blk_cell h 1).trans rfl
theorem IsS135.set_1 {w0 W : World} {g : Nat} {f0 : List Int} {f1 : Bool} (h : IsS135 w0 W g f0 f1) (x : Bool) : IsS135 w0 (W.setCell ⟨g, 1, none⟩ (.bool x)) g f0 x := by
 obtain ⟨A0, c0, hb, hg, hr0⟩ := h
 exact ⟨A0, c0, by simpa using blk_set hb 1 (.bool x), hg, hr0⟩
theorem IsS135.new (w0 W : World) (A0 : Option Addr) (c0 : Nat) (f0 : List Int) (f1 : Bool) (hB : Below w0.heap.size w0 W) (hr0 : Kd.C (Kd.int .u8) w0 A0 f0.length f0) : IsS135 w0 (W.alloc (.cells #[.slice A0 f0.length c0, .bool f1] 135)) W.heap.size f0 f1 := ⟨A0, c0, by simpa using heap_alloc_new W _, hB.size, hr0⟩

/-! ### impl_cursor_ended: function 105 -/
def impl_cursor_ended.f (s0_0 : List Int) (s0_1 : Bool) : Option (Bool × Bool) := if s0_1 = true then (some (false, s0_1)) else (some (((s0_0.length : Int) == 0), s0_1))
set_option maxHeartbeats 8000000 in
set_option maxRecDepth 100000 in
theorem impl_cursor_ended.calls (g : Nat) (s0_0 : List Int) (s0_1 : Bool) (r1 : Bool) (r2 : Bool) (w0 w : World) (hI : IsS135 w0 w g s0_0 s0_1) (hB : Below w0.heap.size w0 w) (h : impl_cursor_ended.f s0_0 s0_1 = some (r1, r2)) :
  Calls Try.prog 105 #[.pointer (some ⟨g, 0, none⟩)] w fun e w' => e = .returned (.bool r1) ∧ IsS135 w0 w' g s0_0 r2 ∧ Below w0.heap.size w0 w' ∧ KeepBut w w' g none := by
 have HI0 := Aside0.mk hI
 have HK := Aside0.mk (KeepBut.refl w g none)
 have HL := Aside0.mk hB.size
 clear hI
 have HW0 := Aside0.mk hB.size
 have HB := Aside0.mk hB
 clear hB
 have H : (if s0_1 = true then (some (false, s0_1)) else (some (((s0_0.length : Int) == 0), s0_1))) = some (r1, r2) := h
 clear h
 by_cases c2 : s0_1 = true
 ·subst c2
  have H1 : (some (false, true)) = some (r1, r2) := by rw [if_pos rfl] at H; exact H
  clear H
  have H := H1
  clear H1
  simp only [Option.some.injEq, Prod.mk.injEq] at H
  obtain ⟨rfl, rfl⟩ := H
  obtain ⟨ASz3_0, cSz3_0, HGz3, hgz3, HSz3_0⟩ := HI0.out
  have hcz3_0 := cellS135_0 HGz3
  have hcz3_1 := cellS135_1 HGz3
  have hfz3_1 := blk_frozen HGz3 1
  clear HGz3 hgz3
  go_enter Try.func105, Try.ntmps105
  go_wp2
  go_ret
  exact ⟨by first | rfl | (simp [errW_none, errW_some] <;> rfl) | (simp [*, errW_none, errW_some] <;> rfl), by repeat (first | (with_reducible first | exact HI0.out | apply IsS135.alloc | apply IsS135.drewN | apply IsS135.drew | apply IsS135.set_1) | exact HI0.out), by repeat (first | (with_reducible first | exact HB.out | apply below_alloc | apply pw_below_drewN | apply below_drew1 | refine below_set ?_ (IsS135.ge HI0.out)) | exact HB.out), by repeat (first | (with_reducible first | exact HK.out | apply KeepBut.set_ | apply keep_drewN | apply keep_drew | apply keep_alloc) | exact HK.out)⟩
 ·replace c2 := Bool.eq_false_iff.mpr c2
  subst c2
  have H1 : (some (((s0_0.length : Int) == 0), false)) = some (r1, r2) := by rw [if_neg (show ¬ (false = true) by decide)] at H; exact H
  clear H
  have H := H1
  clear H1
  simp only [Option.some.injEq, Prod.mk.injEq] at H
  obtain ⟨rfl, rfl⟩ := H
  obtain ⟨ASz4_0, cSz4_0, HGz4, hgz4, HSz4_0⟩ := HI0.out
  have hcz4_0 := cellS135_0 HGz4
  have hcz4_1 := cellS135_1 HGz4
  have hfz4_1 := blk_frozen HGz4 1
  clear HGz4 hgz4
  go_enter Try.func105, Try.ntmps105
  go_wp2
  go_ret
  exact ⟨by first | rfl | (simp [errW_none, errW_some] <;> rfl) | (simp [*, errW_none, errW_some] <;> rfl), by repeat (first | (with_reducible first | exact HI0.out | apply IsS135.alloc | apply IsS135.drewN | apply IsS135.drew | apply IsS135.set_1) | exact HI0.out), by repeat (first | (with_reducible first | exact HB.out | apply below_alloc | apply pw_below_drewN | apply below_drew1 | refine below_set ?_ (IsS135.ge HI0.out)) | exact HB.out), by repeat (first | (with_reducible first | exact HK.out | apply KeepBut.set_ | apply keep_drewN | apply keep_drew | apply keep_alloc) | exact HK.out)⟩

end Go.Proofs.Ytckgkhlgnblblaa.PFnExactReadBlock
