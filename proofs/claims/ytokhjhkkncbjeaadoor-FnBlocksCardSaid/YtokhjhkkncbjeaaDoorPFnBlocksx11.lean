-- Written by a program of this session (wip/tools/pp.py over the kit's print).
import Derived.Test.YtokhjhkkncbjeaaDoorPFnBlocksx0
namespace Go.Proofs.YtokhjhkkncbjeaaDoor.PFnBlocks
open Go.RowKit Go.Proofs.YtokhjhkkncbjeaaDoorW.PrintWords Go.Proofs.YtokhjhkkncbjeaaDoorW.PrintLast Go.Proofs.YtokhjhkkncbjeaaDoorW.PrintMore
attribute [local go_sem] max2_int min2_int max_two min_two max_three min_three max_four min_four
attribute [local go_sem high] str_gtr str_leq str_geq
set_option linter.unusedVariables false
set_option linter.unusedSimpArgs false

/-! ### spec_l1Number: function 33 -/
def spec_l1Number.l0 : Nat → Int → List Int → Option (List Int)
 | 0, _, _ => none
 | k + 1, x0, x3 => if x0 ≥ 128 then (if x3.length < 140737488355328 then (spec_l1Number.l0 k (wrap64 (Int.tdiv x0 128)) (x3 ++ [(wrap64 ((Int.tmod x0 128) + 128)) % 256])) else (none)) else (if x3.length < 140737488355328 then (some (x3 ++ [(x0) % 256])) else (none))
def spec_l1Number.f (k : Nat) (a0 : Int) : Option (List Int) := spec_l1Number.l0 k a0 (([] : List Int))
theorem spec_l1Number.mono_l : ∀ k, (∀ y0 y1, LeO (spec_l1Number.l0 k y0 y1) (spec_l1Number.l0 (k + 1) y0 y1))
 | 0 => fun _ _ r h => by simp [spec_l1Number.l0] at h
 | k + 1 => by
  have ih0 := spec_l1Number.mono_l k
  ·intro y0 y1
   unfold spec_l1Number.l0
   repeat' with_reducible first
   | exact ih0 _ _
   | exact LeO.refl _
   | exact LeO.none _
   | refine LeO.ite ?_ ?_
   | refine LeO.bind ?_ (fun _ => ?_)
theorem spec_l1Number.mono : ∀ a0 k, LeO (spec_l1Number.f k a0) (spec_l1Number.f (k + 1) a0) := by
 intro a0 k
 have ih0 := spec_l1Number.mono_l k
 unfold spec_l1Number.f
 repeat' with_reducible first
   | exact ih0 _ _
   | exact LeO.refl _
   | exact LeO.none _
   | refine LeO.ite ?_ ?_
   | refine LeO.bind ?_ (fun _ => ?_)
set_option maxHeartbeats 8000000 in
set_option maxRecDepth 100000 in
theorem spec_l1Number.calls (k : Nat) (a0 : Int) (r : List Int) (w : World) (h : spec_l1Number.f k a0 = some r) :
  Calls Tryd.prog 33 #[.int .i64 a0] w fun e w' => ∃ v0_ : Value, e = .returned (v0_) ∧ Kd.R (Kd.int .u8) 5 w' w.heap.size (fun _ => True) v0_ r ∧ Below w.heap.size w w' := by
 have HB := Aside0.mk (Below.refl w.heap.size w)
 have H : (spec_l1Number.l0 k a0 (([] : List Int))) = some r := h
 clear h
 obtain ⟨y390, hy390⟩ : ∃ y_ : List Int, y_ = (([] : List Int)) := ⟨_, rfl⟩
 replace H : (spec_l1Number.l0 k a0 y390) = some r := by first | (rw [hy390]; with_reducible exact H) | (have H2_ := (Option.bind_some _ _).symm.trans H; rw [hy390]; with_reducible exact H2_) | (have H2_ := (Option.bind_some _ _).symm.trans H; with_reducible exact H2_) | with_reducible exact H | (rw [hy390]; exact H) | exact H
 have Ny390 := Aside0.mk hy390
 clear hy390
 have H' := Aside0.mk H
 clear H
 go_enter Tryd.func33, Tryd.ntmps33
 go_wp2_with (first | ((with_reducible refine gate_dst (N := 4) rfl ?_); refine Kd.R_lit (Kd.int .u8) _ 5 ?hg (N := 4) ?hd (xs := ([] : List Int)) (inner := []) (ok := fun _ => True) (okp := fun _ => True) ?hr ?hp (fun _ hk => hk) trivial (Below.refl _ _) (Nat.le_refl _) (by simp) ?_; (case hd => rfl); (case hg => rfl); (case hr => first | (go_simp; done) | (go_simp; rfl)); (case hp => exact (Reps.none _ _)); intro v391 w2 ho3 hb hg_ hnew_; clear hg_ hnew_; (first | rw [← Ny390.out] at ho3 | (simp only [Int.reduceToNat] at ho3; rw [← Ny390.out] at ho3)); have HO392 := Aside0.mk (Kd.R_lower ho3 (below_size Z0)); replace HB := Aside0.mk (below_step Z0 hb); clear hb ho3))
 go_loopg [0, 3] k (fun kq v0 v3 w' => ∃ (x0_1 : Int) (x3_1 : List Int), v0 = .int .i64 x0_1 ∧ Aside0 (spec_l1Number.l0 kq x0_1 x3_1 = some r) ∧ Aside0 (kq ≤ k) ∧ Aside0 (Kd.R (Kd.int .u8) 5 w' w.heap.size (fun _ => True) v3 x3_1) ∧ Aside0 (Below w.heap.size w w'))
 case atStart => exact ⟨(a0), (y390), Z4, H', ⟨Nat.le_refl _⟩, ⟨(by (with_reducible repeat (first | apply Kd.R_alloc | apply Kd.R_drewN | apply Kd.R_drew)); exact HO392.out)⟩, ⟨J1⟩⟩
 case round =>
  clear H'
  try clear p2
  try clear c3
  obtain ⟨x0_1, x3_1, rfl, HA, HK1, HO_3, HB⟩ := hrel
  cases gk with
  | zero => exact absurd HA.out (by simp [spec_l1Number.l0])
  | succ k1 =>
   have H := HA.out
   clear HA
   simp only [spec_l1Number.l0] at H
   by_cases c4 : x0_1 ≥ 128
   ·rw [if_pos c4] at H
    have c4b0 : decide (128 ≤ x0_1) = true := decide_eq_true c4
    clear c4
    by_cases c5 : x3_1.length < 140737488355328
    ·rw [if_pos c5] at H
     have LMc5 := Aside0.mk c5
     clear c5
     obtain ⟨y393, hy393⟩ : ∃ y_ : List Int, y_ = (x3_1 ++ [(wrap64 ((Int.tmod x0_1 128) + 128)) % 256]) := ⟨_, rfl⟩
     replace H : (spec_l1Number.l0 k1 (wrap64 (Int.tdiv x0_1 128)) y393) = some r := by first | (rw [hy393]; with_reducible exact H) | (have H2_ := (Option.bind_some _ _).symm.trans H; rw [hy393]; with_reducible exact H2_) | (have H2_ := (Option.bind_some _ _).symm.trans H; with_reducible exact H2_) | with_reducible exact H | (rw [hy393]; exact H) | exact H
     have Ny393 := Aside0.mk hy393
     clear hy393
     have H' := Aside0.mk H
     clear H
     go_wp2_with (first | ((with_reducible refine gate_builtin (b := .append) (xs := #[.tmp 7, .tmp 12]) rfl ?_); at_builtin; refine Kd.R_append (Kd.int .u8) (w0 := w) w.heap.size rfl (.tmp 7) (.tmp 12) 22 5 (.int .u8 0) 1 rfl Tryd.underlying22 info5 rfl (by decide) (by omega) u3 x3_1 ((wrap64 ((Int.tmod x0_1 128) + 128)) % 256) [.int .u8 ((wrap64 ((Int.tmod x0_1 128) + 128)) % 256)] (fun _ => True) (fun _ => False) rfl rfl ?aP (fun _ hk => hk.elim) ?aF ?aO ?aB ?aS ?aL ?_; (case aP => exact rfl); (case aB => exact Z0); (case aF => exact (fun _ _ => trivial)); (case aO => exact Z7); (case aS => exact (below_size Z0)); (case aL => have := LMc5.out; omega); intro v394 w6 ho hb hg hat; rw [← Ny393.out] at ho; replace HB := Aside0.mk (hb); have HO395 := Aside0.mk (ho); clear HO_3; clear ho hb hg hat))
     go_roundg k1
     case measure => have := HK1.out; omega
     case rel => exact ⟨(wrap64 (Int.tdiv x0_1 128)), (y393), Z4, H', ⟨J42⟩, ⟨(by (with_reducible repeat (first | apply Kd.R_alloc | apply Kd.R_drewN | apply Kd.R_drew)); exact HO395.out)⟩, ⟨J1⟩⟩
    ·rw [if_neg c5] at H
     exact absurd H (by simp)
   ·rw [if_neg c4] at H
    have c4b0 : decide (128 ≤ x0_1) = false := decide_eq_false c4
    clear c4
    by_cases c7 : x3_1.length < 140737488355328
    ·rw [if_pos c7] at H
     have LMc7 := Aside0.mk c7
     clear c7
     obtain ⟨y396, hy396⟩ : ∃ y_ : List Int, y_ = (x3_1 ++ [(x0_1) % 256]) := ⟨_, rfl⟩
     replace H : (some y396) = some r := by first | (rw [hy396]; with_reducible exact H) | (have H2_ := (Option.bind_some _ _).symm.trans H; rw [hy396]; with_reducible exact H2_) | (have H2_ := (Option.bind_some _ _).symm.trans H; with_reducible exact H2_) | with_reducible exact H | (rw [hy396]; exact H) | exact H
     have Ny396 := Aside0.mk hy396
     clear hy396
     obtain rfl := Option.some.inj H
     go_wp2_with (first | ((with_reducible refine gate_builtin (b := .append) (xs := #[.tmp 16, .tmp 19]) rfl ?_); at_builtin; refine Kd.R_append (Kd.int .u8) (w0 := w) w.heap.size rfl (.tmp 16) (.tmp 19) 22 5 (.int .u8 0) 1 rfl Tryd.underlying22 info5 rfl (by decide) (by omega) u3 x3_1 ((x0_1) % 256) [.int .u8 ((x0_1) % 256)] (fun _ => True) (fun _ => False) rfl rfl ?aP (fun _ hk => hk.elim) ?aF ?aO ?aB ?aS ?aL ?_; (case aP => exact rfl); (case aB => exact Z0); (case aF => exact (fun _ _ => trivial)); (case aO => exact Z7); (case aS => exact (below_size Z0)); (case aL => have := LMc7.out; omega); intro v397 w8 ho hb hg hat; rw [← Ny396.out] at ho; replace HB := Aside0.mk (hb); have HO398 := Aside0.mk (ho); clear HO_3; clear ho hb hg hat))
     go_ret
     exact ⟨_, J0, (by (with_reducible repeat (first | apply Kd.R_alloc | apply Kd.R_drewN | apply Kd.R_drew)); exact HO398.out), J1⟩
    ·rw [if_neg c7] at H
     exact absurd H (by simp)

/-! ### spec_l1Text: function 55 -/
def spec_l1Text.f (k : Nat) (a0 : ByteArray) : Option (List Int) := (spec_l1Number.f k (a0.size : Int)).bind fun t399 => (if t399.length + a0.size < 140737488355328 then (some (t399 ++ bytesOf a0)) else (none))
theorem spec_l1Text.mono : ∀ a0 k, LeO (spec_l1Text.f k a0) (spec_l1Text.f (k + 1) a0) := by
 intro a0 k
 unfold spec_l1Text.f
 repeat' with_reducible first
   | exact spec_l1Number.mono _ _
   | exact LeO.refl _
   | exact LeO.none _
   | refine LeO.ite ?_ ?_
   | refine LeO.bind ?_ (fun _ => ?_)
set_option maxHeartbeats 8000000 in
set_option maxRecDepth 100000 in
theorem spec_l1Text.calls (k : Nat) (a0 : ByteArray) (r : List Int) (w : World) (h : spec_l1Text.f k a0 = some r) :
  Calls Tryd.prog 55 #[.string a0] w fun e w' => ∃ v0_ : Value, e = .returned (v0_) ∧ Kd.R (Kd.int .u8) 5 w' w.heap.size (fun _ => True) v0_ r ∧ Below w.heap.size w w' := by
 have HB := Aside0.mk (Below.refl w.heap.size w)
 have H : ((spec_l1Number.f k (a0.size : Int)).bind fun t399 => (if t399.length + a0.size < 140737488355328 then (some (t399 ++ bytesOf a0)) else (none))) = some r := h
 clear h
 replace H := Option.bind_eq_some_iff.mp H
 obtain ⟨t399, A20, H⟩ := H
 try dsimp only at H
 have A2 := Aside0.mk A20
 clear A20
 by_cases c3 : t399.length + a0.size < 140737488355328
 ·rw [if_pos c3] at H
  have LMc3 := Aside0.mk c3
  clear c3
  obtain ⟨y402, hy402⟩ : ∃ y_ : List Int, y_ = (t399 ++ bytesOf a0) := ⟨_, rfl⟩
  replace H : (some y402) = some r := by first | (rw [hy402]; with_reducible exact H) | (have H2_ := (Option.bind_some _ _).symm.trans H; rw [hy402]; with_reducible exact H2_) | (have H2_ := (Option.bind_some _ _).symm.trans H; with_reducible exact H2_) | with_reducible exact H | (rw [hy402]; exact H) | exact H
  have Ny402 := Aside0.mk hy402
  clear hy402
  obtain rfl := Option.some.inj H
  go_enter Tryd.func55, Tryd.ntmps55
  go_wp2_with (first | ((with_reducible refine gate_callee (f := 33) rfl ?_); refine goesL_ (some 5) rfl rfl Tryd.func33 (by kernel_rfl) rfl #[.int .i64 (a0.size : Int)] rfl Z2 ?_; (with_reducible refine (spec_l1Number.calls k (a0.size : Int) t399 _ A2.out).mono ?_); rintro e w4 ⟨v400, rfl, ho0, hb⟩; refine ⟨_, rfl, ?_⟩; have HO401 := Aside0.mk (Kd.R_lower ho0 (below_size Z0)); replace HB := Aside0.mk (below_step Z0 hb); (try clear hb); (try clear hb2); (try clear hk); (try clear hi); (try clear ho0)) | (at_builtin; refine print_append_str (w0 := w) w.heap.size rfl (.tmp 5) _ 22 9 5 rfl Tryd.underlying22 Tryd.underlying9 info5 v400 t399 a0 rfl rfl ?aO ?aB ?aS ?aL ?_; (case aB => exact Z0); (case aO => exact (Kd.own_of_R (by (with_reducible repeat (first | apply Kd.R_alloc | apply Kd.R_drewN | apply Kd.R_drew)); exact HO401.out))); (case aS => exact (below_size Z0)); (case aL => have := LMc3.out; omega); intro v403 w5 ho0 hb hg; have ho := Kd.R_of_own (h1 := fun _ => rfl) (ok := fun _ => True) ho0 (fun _ _ => trivial); clear ho0; have hat := True.intro; rw [← Ny402.out] at ho; change Kd.R (Kd.int .u8) 5 w5 w.heap.size (fun _ => True) v403 y402 at ho; replace HB := Aside0.mk (hb); have HO404 := Aside0.mk (ho); clear HO401; clear ho hb hg hat))
  go_ret
  exact ⟨_, J0, (by (with_reducible repeat (first | apply Kd.R_alloc | apply Kd.R_drewN | apply Kd.R_drew)); exact HO404.out), J1⟩
 ·rw [if_neg c3] at H
  exact absurd H (by simp)

/-! ### spec_Texts: function 34 -/
def spec_Texts.l0 : Nat → List ByteArray → List Int → Int → Option (List Int)
 | 0, _, _, _ => none
 | k + 1, x0, x3, x4 => if x4 < (x0.length : Int) then (if 0 ≤ x4 then (if ((rdOf ByteArray.empty x0 x4).size : Int) > 3000 then (some (([] : List Int))) else ((spec_l1Text.f k (rdOf ByteArray.empty x0 x4)).bind fun t416 => (if x3.length + t416.length < 140737488355328 then (spec_Texts.l0 k x0 (x3 ++ t416) (wrap64 (x4 + 1))) else (none)))) else (none)) else (some x3)
def spec_Texts.f (k : Nat) (l0 : List ByteArray) : Option (List Int) := if (l0.length : Int) > 200 then (some (([] : List Int))) else ((spec_l1Number.f k (l0.length : Int)).bind fun t408 => (spec_Texts.l0 k l0 t408 0))
theorem spec_Texts.mono_l : ∀ k, (∀ y0 y1 y2, LeO (spec_Texts.l0 k y0 y1 y2) (spec_Texts.l0 (k + 1) y0 y1 y2))
 | 0 => fun _ _ _ r h => by simp [spec_Texts.l0] at h
 | k + 1 => by
  have ih0 := spec_Texts.mono_l k
  ·intro y0 y1 y2
   unfold spec_Texts.l0
   repeat' with_reducible first
   | exact ih0 _ _ _
   | exact spec_l1Number.mono _ _
   | exact spec_l1Text.mono _ _
   | exact LeO.refl _
   | exact LeO.none _
   | refine LeO.ite ?_ ?_
   | refine LeO.bind ?_ (fun _ => ?_)
theorem spec_Texts.mono : ∀ a0 k, LeO (spec_Texts.f k a0) (spec_Texts.f (k + 1) a0) := by
 intro a0 k
 have ih0 := spec_Texts.mono_l k
 unfold spec_Texts.f
 repeat' with_reducible first
   | exact ih0 _ _ _
   | exact spec_l1Number.mono _ _
   | exact spec_l1Text.mono _ _
   | exact LeO.refl _
   | exact LeO.none _
   | refine LeO.ite ?_ ?_
   | refine LeO.bind ?_ (fun _ => ?_)
set_option maxHeartbeats 8000000 in
set_option maxRecDepth 100000 in
theorem spec_Texts.calls (k : Nat) (A0 : Option Addr) (c0 : Nat) (l0 : List ByteArray) (r : List Int) (w : World) (hr0 : Kd.C Kd.string w A0 l0.length l0) (hc0 : l0.length ≤ c0) (h : spec_Texts.f k l0 = some r) :
  Calls Tryd.prog 34 #[.slice A0 l0.length c0] w fun e w' => ∃ v0_ : Value, e = .returned (v0_) ∧ Kd.R (Kd.int .u8) 5 w' w.heap.size (fun _ => True) v0_ r ∧ Below w.heap.size w w' := by
 have HR0 := Aside0.mk hr0
 have HC0 := Aside0.mk hc0
 clear hr0 hc0
 have HB := Aside0.mk (Below.refl w.heap.size w)
 have H : (if (l0.length : Int) > 200 then (some (([] : List Int))) else ((spec_l1Number.f k (l0.length : Int)).bind fun t408 => (spec_Texts.l0 k l0 t408 0))) = some r := h
 clear h
 by_cases c2 : (l0.length : Int) > 200
 ·rw [if_pos c2] at H
  have c2b0 : decide (200 < (l0.length : Int)) = true := decide_eq_true c2
  have c2b1 : decide (200 < l0.length) = true := decide_eq_true (by omega)
  clear c2
  obtain ⟨y405, hy405⟩ : ∃ y_ : List Int, y_ = (([] : List Int)) := ⟨_, rfl⟩
  replace H : (some y405) = some r := by first | (rw [hy405]; with_reducible exact H) | (have H2_ := (Option.bind_some _ _).symm.trans H; rw [hy405]; with_reducible exact H2_) | (have H2_ := (Option.bind_some _ _).symm.trans H; with_reducible exact H2_) | with_reducible exact H | (rw [hy405]; exact H) | exact H
  have Ny405 := Aside0.mk hy405
  clear hy405
  obtain rfl := Option.some.inj H
  go_enter Tryd.func34, Tryd.ntmps34
  go_wp2_with (first | ((with_reducible refine gate_dst (N := 8) rfl ?_); refine Kd.R_lit (Kd.int .u8) _ 5 ?hg (N := 8) ?hd (xs := ([] : List Int)) (inner := []) (ok := fun _ => True) (okp := fun _ => True) ?hr ?hp (fun _ hk => hk) trivial (Below.refl _ _) (Nat.le_refl _) (by simp) ?_; (case hd => rfl); (case hg => rfl); (case hr => first | (go_simp; done) | (go_simp; rfl)); (case hp => exact (Reps.none _ _)); intro v406 w3 ho4 hb hg_ hnew_; clear hg_ hnew_; (first | rw [← Ny405.out] at ho4 | (simp only [Int.reduceToNat] at ho4; rw [← Ny405.out] at ho4)); have HO407 := Aside0.mk (Kd.R_lower ho4 (below_size Z0)); replace HB := Aside0.mk (below_step Z0 hb); clear hb ho4))
  go_ret
  exact ⟨_, J0, (by (with_reducible repeat (first | apply Kd.R_alloc | apply Kd.R_drewN | apply Kd.R_drew)); exact HO407.out), J1⟩
 ·rw [if_neg c2] at H
  have c2b0 : decide (200 < (l0.length : Int)) = false := decide_eq_false c2
  have c2b1 : decide (200 < l0.length) = false := decide_eq_false (by omega)
  clear c2
  replace H := Option.bind_eq_some_iff.mp H
  obtain ⟨t408, A50, H⟩ := H
  try dsimp only at H
  have A5 := Aside0.mk A50
  clear A50
  have H' := Aside0.mk H
  clear H
  go_enter Tryd.func34, Tryd.ntmps34
  go_wp2_with (first | ((with_reducible refine gate_callee (f := 33) rfl ?_); refine goesL_ (some 11) rfl rfl Tryd.func33 (by kernel_rfl) rfl #[.int .i64 (l0.length : Int)] rfl Z2 ?_; (with_reducible refine (spec_l1Number.calls k (l0.length : Int) t408 _ A5.out).mono ?_); rintro e w6 ⟨v409, rfl, ho0, hb⟩; refine ⟨_, rfl, ?_⟩; have HO410 := Aside0.mk (Kd.R_lower ho0 (below_size Z0)); replace HB := Aside0.mk (below_step Z0 hb); (try clear hb); (try clear hb2); (try clear hk); (try clear hi); (try clear ho0)))
  go_loopg [3, 4] k (fun kq v3 v4 w' => ∃ (x3_1 : List Int) (x4_1 : Int), v4 = .int .i64 x4_1 ∧ Aside0 (spec_Texts.l0 kq l0 x3_1 x4_1 = some r) ∧ Aside0 (kq ≤ k) ∧ Aside0 (Kd.R (Kd.int .u8) 5 w' w.heap.size (fun _ => True) v3 x3_1) ∧ Aside0 (Below w.heap.size w w'))
  case atStart => exact ⟨(t408), (0), Z4, H', ⟨Nat.le_refl _⟩, ⟨(by (with_reducible repeat (first | apply Kd.R_alloc | apply Kd.R_drewN | apply Kd.R_drew)); exact HO410.out)⟩, ⟨J1⟩⟩
  case round =>
   clear H'
   try clear c2
   try clear c2b0
   try clear c2b1
   try clear p2
   try clear c3
   obtain ⟨x3_1, x4_1, rfl, HA, HK1, HO_3, HB⟩ := hrel
   cases gk with
   | zero => exact absurd HA.out (by simp [spec_Texts.l0])
   | succ k1 =>
    have H := HA.out
    clear HA
    simp only [spec_Texts.l0] at H
    by_cases c7 : x4_1 < (l0.length : Int)
    ·rw [if_pos c7] at H
     have c7b0 : decide (x4_1 < (l0.length : Int)) = true := decide_eq_true c7
     clear c7
     by_cases c8 : 0 ≤ x4_1
     ·rw [if_pos c8] at H
      have c8b0 : decide (0 ≤ x4_1) = true := decide_eq_true c8
      clear c8
      by_cases c9 : ((rdOf ByteArray.empty l0 x4_1).size : Int) > 3000
      ·rw [if_pos c9] at H
       have c9b0 : decide (3000 < ((rdOf ByteArray.empty l0 x4_1).size : Int)) = true := decide_eq_true c9
       have c9b1 : decide (3000 < (rdOf ByteArray.empty l0 x4_1).size) = true := decide_eq_true (by omega)
       clear c9
       obtain ⟨y412, hy412⟩ : ∃ y_ : List Int, y_ = (([] : List Int)) := ⟨_, rfl⟩
       replace H : (some y412) = some r := by first | (rw [hy412]; with_reducible exact H) | (have H2_ := (Option.bind_some _ _).symm.trans H; rw [hy412]; with_reducible exact H2_) | (have H2_ := (Option.bind_some _ _).symm.trans H; with_reducible exact H2_) | with_reducible exact H | (rw [hy412]; exact H) | exact H
       have Ny412 := Aside0.mk hy412
       clear hy412
       obtain rfl := Option.some.inj H
       have p411 : 0 ≤ (x4_1 : Int) := od_
       have q411 : x4_1 < (l0.length : Int) := od_
       obtain ⟨ad411, e411, hx411_0⟩ := Kd.at_string HR0.out x4_1 p411 q411
       cases e411
       replace hx411_0 := (HB.out.cell (World.block_lt_of_cell? w _ hx411_0)).trans hx411_0
       replace p411 := eq_true p411
       replace q411 := eq_true q411
       go_wp2_with (first | ((with_reducible refine gate_dst (N := 24) rfl ?_); refine Kd.R_lit (Kd.int .u8) _ 5 ?hg (N := 24) ?hd (xs := ([] : List Int)) (inner := []) (ok := fun _ => True) (okp := fun _ => True) ?hr ?hp (fun _ hk => hk) trivial (Below.refl _ _) (Nat.le_refl _) (by simp) ?_; (case hd => rfl); (case hg => rfl); (case hr => first | (go_simp; done) | (go_simp; rfl)); (case hp => exact (Reps.none _ _)); intro v413 w10 ho11 hb hg_ hnew_; clear hg_ hnew_; (first | rw [← Ny412.out] at ho11 | (simp only [Int.reduceToNat] at ho11; rw [← Ny412.out] at ho11)); have HO414 := Aside0.mk (Kd.R_lower (Kd.R_new' ho11 (Kd.R_lt Z7)) (below_size Z0)); replace HO_3 := Aside0.mk (Kd.R_elder' Z7 (Kd.R_base ho11) hb); replace HB := Aside0.mk (below_step Z0 hb); clear hb ho11))
       go_ret
       exact ⟨_, J0, (by (with_reducible repeat (first | apply Kd.R_alloc | apply Kd.R_drewN | apply Kd.R_drew)); exact Kd.R_mono HO414.out (fun _ hk => trivial)), J1⟩
      ·rw [if_neg c9] at H
       have c9b0 : decide (3000 < ((rdOf ByteArray.empty l0 x4_1).size : Int)) = false := decide_eq_false c9
       have c9b1 : decide (3000 < (rdOf ByteArray.empty l0 x4_1).size) = false := decide_eq_false (by omega)
       clear c9
       replace H := Option.bind_eq_some_iff.mp H
       obtain ⟨t416, A120, H⟩ := H
       try dsimp only at H
       have A12 := Aside0.mk A120
       clear A120
       by_cases c13 : x3_1.length + t416.length < 140737488355328
       ·rw [if_pos c13] at H
        have LMc13 := Aside0.mk c13
        clear c13
        obtain ⟨y419, hy419⟩ : ∃ y_ : List Int, y_ = (x3_1 ++ t416) := ⟨_, rfl⟩
        replace H : (spec_Texts.l0 k1 l0 y419 (wrap64 (x4_1 + 1))) = some r := by first | (rw [hy419]; with_reducible exact H) | (have H2_ := (Option.bind_some _ _).symm.trans H; rw [hy419]; with_reducible exact H2_) | (have H2_ := (Option.bind_some _ _).symm.trans H; with_reducible exact H2_) | with_reducible exact H | (rw [hy419]; exact H) | exact H
        have Ny419 := Aside0.mk hy419
        clear hy419
        have H' := Aside0.mk H
        clear H
        have p411 : 0 ≤ (x4_1 : Int) := od_
        have q411 : x4_1 < (l0.length : Int) := od_
        obtain ⟨ad411, e411, hx411_0⟩ := Kd.at_string HR0.out x4_1 p411 q411
        cases e411
        replace hx411_0 := (HB.out.cell (World.block_lt_of_cell? w _ hx411_0)).trans hx411_0
        replace p411 := eq_true p411
        replace q411 := eq_true q411
        have p415 : 0 ≤ (x4_1 : Int) := od_
        have q415 : x4_1 < (l0.length : Int) := od_
        obtain ⟨ad415, e415, hx415_0⟩ := Kd.at_string HR0.out x4_1 p415 q415
        obtain rfl : ad411 = ad415 := (by injection e415)
        replace hx415_0 := (HB.out.cell (World.block_lt_of_cell? w _ hx415_0)).trans hx415_0
        replace p415 := eq_true p415
        replace q415 := eq_true q415
        go_wp2_with (first | ((with_reducible refine gate_callee (f := 55) rfl ?_); refine goesL_ (some 30) rfl rfl Tryd.func55 (by kernel_rfl) rfl #[.string (rdOf ByteArray.empty l0 x4_1)] rfl Z2 ?_; (with_reducible refine (spec_l1Text.calls k1 (rdOf ByteArray.empty l0 x4_1) t416 _ A12.out).mono ?_); rintro e w14 ⟨v417, rfl, ho0, hb⟩; refine ⟨_, rfl, ?_⟩; have HO418 := Aside0.mk (Kd.R_lower (Kd.R_new' ho0 (Kd.R_lt Z7)) (below_size Z0)); replace HO_3 := Aside0.mk (Kd.R_elder' Z7 (Kd.R_base ho0) hb); replace HB := Aside0.mk (below_step Z0 hb); (try clear hb); (try clear hb2); (try clear hk); (try clear hi); (try clear ho0); obtain ⟨Ao16, co16, eo16⟩ := Kd.R_slice HO418.out; subst eo16) | ((with_reducible refine gate_builtin (b := .append) (xs := #[.tmp 25, .tmp 30]) rfl ?_); at_builtin; refine Kd.R_append_rows (Kd.int .u8) (w0 := w) w.heap.size rfl (.tmp 25) (.tmp 30) 22 5 (.int .u8 0) 1 rfl Tryd.underlying22 info5 rfl (by decide) (by omega) u3 x3_1 t416 _ _ _ (fun k_ => some k_ ≠ (.slice Ao16 t416.length co16 : Value).ownBlock) (fun _ => False) rfl rfl ?aO ?aR (fun _ _ h => h) (fun _ h => h.elim) ?aF ?aB ?aS ?aL ?_; (case aR => repeat (first | exact (Kd.R_reads' HO418.out).2.2 | (with_reducible refine Kd.C_alloc ?_ _) | (with_reducible refine Kd.C_drewN ?_ _) | (with_reducible refine Kd.C_drew ?_))); (case aB => exact Z0); (case aF => exact (fun k_ hk => Kd.fresh' (Kd.R_lt (by (with_reducible repeat (first | apply Kd.R_alloc | apply Kd.R_drewN | apply Kd.R_drew)); exact HO418.out)) k_ hk)); (case aO => exact Z35); (case aS => exact (below_size Z0)); (case aL => have := LMc13.out; omega); intro v420 w15 ho hb hg hat; rw [← Ny419.out] at ho; replace HO418 := Aside0.mk (Kd.R_after (ok := (fun _ => True)) (by (with_reducible repeat (first | apply Kd.R_alloc | apply Kd.R_drewN | apply Kd.R_drew)); exact HO418.out) hg hat); replace HB := Aside0.mk (hb); have HO421 := Aside0.mk (ho); clear HO_3; clear ho hb hg hat))
        go_roundg k1
        case measure => have := HK1.out; omega
        case rel => exact ⟨(y419), (wrap64 (x4_1 + 1)), Z4, H', ⟨J42⟩, ⟨(by (with_reducible repeat (first | apply Kd.R_alloc | apply Kd.R_drewN | apply Kd.R_drew)); exact Kd.R_mono HO421.out (fun _ hk => trivial))⟩, ⟨J1⟩⟩
       ·rw [if_neg c13] at H
        exact absurd H (by simp)
     ·rw [if_neg c8] at H
      exact absurd H (by simp)
    ·rw [if_neg c7] at H
     have c7b0 : decide (x4_1 < (l0.length : Int)) = false := decide_eq_false c7
     clear c7
     obtain rfl := Option.some.inj H
     go_wp2
     go_ret
     exact ⟨_, J0, J23, J1⟩

end Go.Proofs.YtokhjhkkncbjeaaDoor.PFnBlocks
