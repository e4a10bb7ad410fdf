-- Written by a program of this session (wip/tools/pp.py over the kit's print).
import Derived.Test.YtcegobkangpilaaDoorPFnExactPartedx0
import Derived.Test.YtcegobkangpilaaDoorPFnExactPartedx1
import Derived.Test.YtcegobkangpilaaDoorPFnExactPartedx2
import Derived.Test.YtcegobkangpilaaDoorPFnExactPartedx5
namespace Go.Proofs.YtcegobkangpilaaDoor.PFnExactParted
open Go.RowKit Go.Proofs.YtcegobkangpilaaDoorW.PrintWords Go.Proofs.YtcegobkangpilaaDoorW.PrintLast Go.Proofs.YtcegobkangpilaaDoorW.PrintMore
attribute [local go_sem] max2_int min2_int max_two min_two max_three min_three max_four min_four
attribute [local go_sem high] str_gtr str_leq str_geq
set_option linter.unusedVariables false
set_option linter.unusedSimpArgs false

/-! ### laws_markInt64S: function 42 -/
def laws_markInt64S.l0 : Nat → List Int → Int → Int → Option (Int × List Int)
  | 0, _, _, _ => none
  | k + 1, x0, x1, x5 => if x5 < (x0.length : Int) then (if 0 ≤ x5 then (laws_markInt64S.l0 k (x0.set (x5 : Int).toNat x1) (wrap64 (x1 + 1)) (wrap64 (x5 + 1))) else (none)) else (some (x1, x0))
def laws_markInt64S.f (k : Nat) (l0 : List Int) (a1 : Int) : Option (Int × List Int) := laws_markInt64S.l0 k l0 a1 0
theorem laws_markInt64S.mono_l : ∀ k, (∀ y0 y1 y2, LeO (laws_markInt64S.l0 k y0 y1 y2) (laws_markInt64S.l0 (k + 1) y0 y1 y2))
  | 0 => fun _ _ _ r h => by simp [laws_markInt64S.l0] at h
  | k + 1 => by
    have ih0 := laws_markInt64S.mono_l k
    · intro y0 y1 y2
      unfold laws_markInt64S.l0
      repeat' first
      | (with_reducible exact ih0 _ _ _)
      | (with_reducible exact LeO.refl _)
      | (with_reducible exact LeO.none _)
      | (with_reducible refine LeO.ite ?_ ?_)
      | (with_reducible refine LeO.bind ?_ (fun _ => ?_))
      | exact ih0 _ _ _
      | exact LeO.none _
      | refine LeO.ite ?_ ?_
      | refine LeO.bind ?_ (fun _ => ?_)
theorem laws_markInt64S.mono : ∀ a0 a1 k, LeO (laws_markInt64S.f k a0 a1) (laws_markInt64S.f (k + 1) a0 a1) := by
  intro a0 a1 k
  have ih0 := laws_markInt64S.mono_l k
  unfold laws_markInt64S.f
  repeat' first
      | (with_reducible exact ih0 _ _ _)
      | (with_reducible exact LeO.refl _)
      | (with_reducible exact LeO.none _)
      | (with_reducible refine LeO.ite ?_ ?_)
      | (with_reducible refine LeO.bind ?_ (fun _ => ?_))
      | exact ih0 _ _ _
      | exact LeO.none _
      | refine LeO.ite ?_ ?_
      | refine LeO.bind ?_ (fun _ => ?_)
set_option maxHeartbeats 8000000 in
set_option maxRecDepth 100000 in
theorem laws_markInt64S.calls (k : Nat) (P0_ : Nat → Prop) (u9000_ : Value) (l0 : List Int) (a1 : Int) (r1 : Int) (r2 : List Int) (w0 w : World) (hB : Below w0.heap.size w0 w) (ho0 : Kd.R (Kd.int .i64) 2 w w0.heap.size P0_ u9000_ l0) (h : laws_markInt64S.f k l0 a1 = some (r1, r2)) :
    Calls Tryd.prog 42 #[u9000_, .int .i64 a1] w fun e w' => e = .returned (.int .i64 r1) ∧ Kd.R (Kd.int .i64) 2 w' w0.heap.size (fun k_ => (P0_ k_ ∨ w.heap.size ≤ k_)) u9000_ r2 ∧ Below w0.heap.size w0 w' ∧ Kept w w' (fun k_ => P0_ k_) := by
  have HO0 := Aside0.mk (show Kd.R (Kd.int .i64) 2 w w0.heap.size (fun k_ => (P0_ k_ ∨ w.heap.size ≤ k_)) u9000_ l0 from Kd.R_mono ho0 (fun k_ hk => (.inl hk)))
  have HK := Aside0.mk (Kept.refl w (fun k_ => P0_ k_))
  have HW0 := Aside0.mk hB.size
  have HB := Aside0.mk hB
  clear hB
  have H : (laws_markInt64S.l0 k l0 a1 0) = some (r1, r2) := h
  clear h
  have H' := Aside0.mk H
  clear H
  go_enter Tryd.func42, Tryd.ntmps42
  go_wp2
  go_loopg [1, 5] k (fun kq v1 v5 w' => ∃ (x0_1 : List Int) (x1_1 : Int) (x5_1 : Int), v1 = .int .i64 x1_1 ∧ v5 = .int .i64 x5_1 ∧ Aside0 (laws_markInt64S.l0 kq x0_1 x1_1 x5_1 = some (r1, r2)) ∧ Aside0 (kq ≤ k) ∧ Aside0 (Kd.R (Kd.int .i64) 2 w' w0.heap.size (fun k_ => (P0_ k_ ∨ w.heap.size ≤ k_)) u9000_ x0_1) ∧ Aside0 (Kept w w' (fun k_ => P0_ k_)) ∧ Aside0 (Below w0.heap.size w0 w'))
  case atStart => exact ⟨(l0), (a1), (0), (by first | rfl | (simp; done) | (simp [*]; done)), (by first | rfl | (simp; done) | (simp [*]; done)), H', ⟨Nat.le_refl _⟩, ⟨by (with_reducible repeat (first | apply Kd.R_alloc | apply Kd.R_drewN | apply Kd.R_drew)); exact HO0.out⟩, ⟨by repeat (first | (with_reducible first | exact HK.out | apply Kept.alloc | apply Kept.drewN | apply Kept.drew) | exact HK.out)⟩, ⟨by repeat (first | (with_reducible first | exact HB.out | apply below_alloc | apply pw_below_drewN | apply below_drew1) | exact HB.out)⟩⟩
  case round =>
    clear H'
    try clear p2
    obtain ⟨x0_1, x1_1, x5_1, rfl, rfl, HA, HK1, HO_0, HK, HB⟩ := hrel
    cases gk with
    | zero => exact absurd HA.out (by simp [laws_markInt64S.l0])
    | succ k1 =>
      have H := HA.out
      clear HA
      simp only [laws_markInt64S.l0] at H
      by_cases c3 : x5_1 < (x0_1.length : Int)
      · rw [if_pos c3] at H
        have c3b0 : decide (x5_1 < (x0_1.length : Int)) = true := decide_eq_true c3
        clear c3
        by_cases c4 : 0 ≤ x5_1
        · rw [if_pos c4] at H
          have c4b0 : decide (0 ≤ x5_1) = true := decide_eq_true c4
          clear c4
          obtain ⟨y230, hy230⟩ : ∃ y_ : List Int, y_ = (x0_1.set (x5_1 : Int).toNat x1_1) := ⟨_, rfl⟩
          replace H : (laws_markInt64S.l0 k1 y230 (wrap64 (x1_1 + 1)) (wrap64 (x5_1 + 1))) = some (r1, r2) := by first | (rw [hy230]; with_reducible exact H) | (have H2_ := (Option.bind_some _ _).symm.trans H; rw [hy230]; with_reducible exact H2_) | (have H2_ := (Option.bind_some _ _).symm.trans H; with_reducible exact H2_) | with_reducible exact H | (rw [hy230]; exact H) | exact H
          have Ny230 := Aside0.mk hy230
          clear hy230
          have H' := Aside0.mk H
          clear H
          obtain ⟨Ao6, co6, eo6⟩ := Kd.R_slice HO_0.out
          subst eo6
          have p5 : 0 ≤ (x5_1 : Int) := of_decide_eq_true (by first | (with_reducible assumption) | assumption)
          have q5 : (x5_1 : Int) < ((x0_1.length : Int) : Int) := of_decide_eq_true (by first | (with_reducible assumption) | assumption)
          obtain ⟨go5, co5, eo5, gb5, gl5, cl5, HG5⟩ := Kd.R_form HO_0.out (by omega)
          (first | cases eo5 | (injection eo5 with ea_ en_ ec_; (first | subst ea_ | (injection ea_ with ea_; subst ea_)); subst ec_; clear en_))
          have GB5 := Aside0.mk gb5
          have GG5 := Aside0.mk HG5
          clear gb5 gl5 HG5
          have HMgo5 := Aside0.mk (show (P0_ go5 ∨ w.heap.size ≤ go5) from (HO_0.out.1 _ rfl))
          obtain ⟨hx5_0, hf5_0⟩ := Kd.R_celln 0 HO_0.out (x5_1 : Int) p5 q5
          replace p5 := eq_true p5
          replace q5 := eq_true q5
          have HP7 := Kd.R_putg HO_0.out (x5_1 : Int) x1_1
          go_wp2_with (first | ((with_reducible refine gate_store (t := 2) (p := 15) rfl ?_); refine store_event (t := 2) (p := 15) (v := ?vo_w8) (w1 := (wr.setCell ⟨go5, (x5_1 : Int).toNat, none⟩ (.int .i64 x1_1))) ?hg ?ho ?hn ?hr ?_; (case ho => rfl); (case hg => rfl); (case hn => rfl); (case hr => first | (go_simp; done) | (go_simp; rfl)); intro w8 hw; have hg : wr.grownBy w8 (some go5) := (by rw [hw]; exact HP7.2); have hp_ : Kd.R (Kd.int .i64) 2 w8 w0.heap.size (fun k_ => (P0_ k_ ∨ w.heap.size ≤ k_)) (.slice (some ⟨go5, 0, none⟩) x0_1.length co6) y230 := (by rw [hw, Ny230.out]; exact HP7.1); clear HP7; have n0_ := Aside0.mk (hp_); have n1_ := Aside0.mk ((by rw [hw]; exact below_set (HB.out) GB5.out : Below w0.heap.size w0 w8)); have n2_ := Aside0.mk (Kept.of_grown (S := (fun k_ => P0_ k_)) hg (by repeat (first | (with_reducible first | exact HK.out | apply Kept.alloc | apply Kept.drewN | apply Kept.drew) | exact HK.out)) (fun k_ e_ => (HO_0.out.1 k_ e_))); clear HO_0; clear HB; clear HK; have HO_0 := n0_; have HB := n1_; have HK := n2_; clear n0_ n1_ n2_; clear hg hw hp_))
          go_roundg k1
          case measure => have := HK1.out; omega
          case rel => exact ⟨(y230), (wrap64 (x1_1 + 1)), (wrap64 (x5_1 + 1)), (by first | rfl | (simp; done) | (simp [*]; done)), (by first | rfl | (simp; done) | (simp [*]; done)), H', ⟨by have := HK1.out; omega⟩, ⟨by (with_reducible repeat (first | apply Kd.R_alloc | apply Kd.R_drewN | apply Kd.R_drew)); exact HO_0.out⟩, ⟨by repeat (first | (with_reducible first | exact HK.out | apply Kept.alloc | apply Kept.drewN | apply Kept.drew) | exact HK.out)⟩, ⟨by repeat (first | (with_reducible first | exact HB.out | apply below_alloc | apply pw_below_drewN | apply below_drew1) | exact HB.out)⟩⟩
        · rw [if_neg c4] at H
          exact absurd H (by simp)
      · rw [if_neg c3] at H
        have c3b0 : decide (x5_1 < (x0_1.length : Int)) = false := decide_eq_false c3
        clear c3
        simp only [Option.some.injEq, Prod.mk.injEq] at H
        obtain ⟨rfl, rfl⟩ := H
        obtain ⟨Ao9, co9, eo9⟩ := Kd.R_slice HO_0.out
        subst eo9
        go_wp2
        go_ret
        exact ⟨by first | rfl | (simp [errW_none, errW_some] <;> rfl) | (simp [*, errW_none, errW_some] <;> rfl), by (with_reducible repeat (first | apply Kd.R_alloc | apply Kd.R_drewN | apply Kd.R_drew)); exact HO_0.out, by repeat (first | (with_reducible first | exact HB.out | apply below_alloc | apply pw_below_drewN | apply below_drew1) | exact HB.out), by repeat (first | (with_reducible first | exact HK.out | apply Kept.alloc | apply Kept.drewN | apply Kept.drew) | exact HK.out)⟩

/-! ### laws_heldInt64S: function 43 -/
def laws_heldInt64S.l0 : Nat → List Int → Int → Int → Option (Int)
  | 0, _, _, _ => none
  | k + 1, x0, x1, x5 => if x5 < (x0.length : Int) then (if 0 ≤ x5 then (if (rd x0 x5) = x1 then (laws_heldInt64S.l0 k x0 (wrap64 (x1 + 1)) (wrap64 (x5 + 1))) else (none)) else (none)) else (some x1)
def laws_heldInt64S.f (k : Nat) (l0 : List Int) (a1 : Int) : Option (Int) := laws_heldInt64S.l0 k l0 a1 0
theorem laws_heldInt64S.mono_l : ∀ k, (∀ y0 y1 y2, LeO (laws_heldInt64S.l0 k y0 y1 y2) (laws_heldInt64S.l0 (k + 1) y0 y1 y2))
  | 0 => fun _ _ _ r h => by simp [laws_heldInt64S.l0] at h
  | k + 1 => by
    have ih0 := laws_heldInt64S.mono_l k
    · intro y0 y1 y2
      unfold laws_heldInt64S.l0
      repeat' first
      | (with_reducible exact ih0 _ _ _)
      | (with_reducible exact LeO.refl _)
      | (with_reducible exact LeO.none _)
      | (with_reducible refine LeO.ite ?_ ?_)
      | (with_reducible refine LeO.bind ?_ (fun _ => ?_))
      | exact ih0 _ _ _
      | exact LeO.none _
      | refine LeO.ite ?_ ?_
      | refine LeO.bind ?_ (fun _ => ?_)
theorem laws_heldInt64S.mono : ∀ a0 a1 k, LeO (laws_heldInt64S.f k a0 a1) (laws_heldInt64S.f (k + 1) a0 a1) := by
  intro a0 a1 k
  have ih0 := laws_heldInt64S.mono_l k
  unfold laws_heldInt64S.f
  repeat' first
      | (with_reducible exact ih0 _ _ _)
      | (with_reducible exact LeO.refl _)
      | (with_reducible exact LeO.none _)
      | (with_reducible refine LeO.ite ?_ ?_)
      | (with_reducible refine LeO.bind ?_ (fun _ => ?_))
      | exact ih0 _ _ _
      | exact LeO.none _
      | refine LeO.ite ?_ ?_
      | refine LeO.bind ?_ (fun _ => ?_)
set_option maxHeartbeats 8000000 in
set_option maxRecDepth 100000 in
theorem laws_heldInt64S.calls (k : Nat) (A0 : Option Addr) (c0 : Nat) (l0 : List Int) (a1 : Int) (r : Int) (w : World) (hr0 : Kd.C (Kd.int .i64) w A0 l0.length l0) (hc0 : l0.length ≤ c0) (h : laws_heldInt64S.f k l0 a1 = some r) :
    Calls Tryd.prog 43 #[.slice A0 l0.length c0, .int .i64 a1] w fun e w' => e = .returned (.int .i64 r) ∧ Drawn0 w w' := by
  have HR0 := Aside0.mk hr0
  have HC0 := Aside0.mk hc0
  clear hr0 hc0
  have H : (laws_heldInt64S.l0 k l0 a1 0) = some r := h
  clear h
  have H' := Aside0.mk H
  clear H
  go_enter Tryd.func43, Tryd.ntmps43
  go_wp2
  go_loopg [1, 5] k (fun kq v1 v5 w' => ∃ (x1_1 : Int) (x5_1 : Int), v1 = .int .i64 x1_1 ∧ v5 = .int .i64 x5_1 ∧ Aside0 (laws_heldInt64S.l0 kq l0 x1_1 x5_1 = some r) ∧ Aside0 (kq ≤ k) ∧ Drawn0 w w')
  case atStart => exact ⟨(a1), (0), (by first | rfl | (simp; done) | (simp [*]; done)), (by first | rfl | (simp; done) | (simp [*]; done)), H', ⟨Nat.le_refl _⟩, by repeat (first | exact Drawn0.refl _ | apply Drawn0.step)⟩
  case round =>
    clear H'
    try clear p2
    obtain ⟨x1_1, x5_1, rfl, rfl, HA, HK1, ⟨m1, rfl⟩⟩ := hrel
    cases gk with
    | zero => exact absurd HA.out (by simp [laws_heldInt64S.l0])
    | succ k1 =>
      have H := HA.out
      clear HA
      simp only [laws_heldInt64S.l0] at H
      by_cases c3 : x5_1 < (l0.length : Int)
      · rw [if_pos c3] at H
        have c3b0 : decide (x5_1 < (l0.length : Int)) = true := decide_eq_true c3
        clear c3
        by_cases c4 : 0 ≤ x5_1
        · rw [if_pos c4] at H
          have c4b0 : decide (0 ≤ x5_1) = true := decide_eq_true c4
          clear c4
          by_cases c5 : (rd l0 x5_1) = x1_1
          · rw [if_pos c5] at H
            have c5b0 : ((rd l0 x5_1) == x1_1) = true := beq_iff_eq.mpr c5
            have c5b1 : ((rd l0 x5_1) != x1_1) = false := bne_eq_false_iff_eq.mpr c5
            clear c5
            have H' := Aside0.mk H
            clear H
            have p231 : 0 ≤ (x5_1 : Int) := of_decide_eq_true (by first | (with_reducible assumption) | assumption)
            have q231 : x5_1 < (l0.length : Int) := of_decide_eq_true (by first | (with_reducible assumption) | assumption)
            obtain ⟨ad231, e231, hx231_0⟩ := Kd.at_int HR0.out x5_1 p231 q231
            cases e231
            replace p231 := eq_true p231
            replace q231 := eq_true q231
            go_wp2
            go_roundg k1
            case measure => have := HK1.out; omega
            case rel => exact ⟨(wrap64 (x1_1 + 1)), (wrap64 (x5_1 + 1)), (by first | rfl | (simp; done) | (simp [*]; done)), (by first | rfl | (simp; done) | (simp [*]; done)), H', ⟨by have := HK1.out; omega⟩, by repeat (first | exact Drawn0.refl _ | apply Drawn0.step)⟩
          · rw [if_neg c5] at H
            exact absurd H (by simp)
        · rw [if_neg c4] at H
          exact absurd H (by simp)
      · rw [if_neg c3] at H
        have c3b0 : decide (x5_1 < (l0.length : Int)) = false := decide_eq_false c3
        clear c3
        obtain rfl := Option.some.inj H
        go_wp2
        go_ret
        exact ⟨by first | rfl | (simp; done) | (simp [*]; done), by repeat (first | exact Drawn0.refl _ | apply Drawn0.step)⟩

/-! ### laws_FnExactParted: function 10 -/
def laws_FnExactParted.f (k : Nat) (a0 : Int) (a1 : Int) (l2 : List Int) (a3 : Int) (l4 : List Int) : Option (Bool) := if (l2.length : Int) > 1048576 then (some true) else (if (l4.length : Int) > 1048576 then (some true) else ((laws_toInt64S.f k l2).bind fun t232 => ((laws_toInt64S.f k l4).bind fun t235 => ((spec_Parted.f k a0 a1 t232 a3 t235).bind fun bt238 => ((laws_toInt64S.f k l2).bind fun t242 => ((laws_toInt64S.f k l4).bind fun t245 => ((impl_Parted.f k a0 a1 t242 a3 t245).bind fun bt248 => ((laws_eqInt64S.f k bt248.1 bt238.1).bind fun t252 => (if t252 = true then (if (bt248.2 != bt238.2) = true then (none) else ((laws_toInt64S.f k l2).bind fun t253 => ((laws_eqInt64S.f k t242 t253).bind fun t256 => (if t256 = true then ((laws_toInt64S.f k l4).bind fun t257 => ((laws_eqInt64S.f k t245 t257).bind fun t260 => (if t260 = true then ((laws_markInt64S.f k t242 1).bind fun bt261 => ((laws_markInt64S.f k t245 bt261.1).bind fun bt263 => (if bt263.1 < 0 then (none) else ((laws_eqInt64S.f k bt248.1 bt238.1).bind fun t265 => (if t265 = true then ((laws_markInt64S.f k bt248.1 1).bind fun bt266 => ((laws_heldInt64S.f k bt266.2 1).bind fun t268 => (if t268 < 0 then (none) else (if t268 = bt266.1 then ((laws_toInt64S.f k l2).bind fun t269 => ((laws_toInt64S.f k l4).bind fun t272 => ((impl_Parted.f k a0 a1 t269 a3 t272).bind fun bt275 => ((laws_eqInt64S.f k bt275.1 bt238.1).bind fun t279 => (if t279 = true then (if (bt275.2 != bt238.2) = true then (none) else ((laws_heldInt64S.f k bt266.2 1).bind fun t280 => (if t280 < 0 then (none) else (if t280 = bt266.1 then (some true) else (none))))) else (none)))))) else (none))))) else (none)))))) else (none)))) else (none))))) else (none))))))))))
theorem laws_FnExactParted.mono : ∀ a0 a1 a2 a3 a4 k, LeO (laws_FnExactParted.f k a0 a1 a2 a3 a4) (laws_FnExactParted.f (k + 1) a0 a1 a2 a3 a4) := by
  intro a0 a1 a2 a3 a4 k
  unfold laws_FnExactParted.f
  repeat' first
      | (with_reducible exact impl_Parted.mono _ _ _ _ _ _)
      | (with_reducible exact laws_eqInt64S.mono _ _ _)
      | (with_reducible exact laws_heldInt64S.mono _ _ _)
      | (with_reducible exact laws_markInt64S.mono _ _ _)
      | (with_reducible exact laws_toInt64S.mono _ _)
      | (with_reducible exact spec_Parted.mono _ _ _ _ _ _)
      | (with_reducible exact LeO.refl _)
      | (with_reducible exact LeO.none _)
      | (with_reducible refine LeO.ite ?_ ?_)
      | (with_reducible refine LeO.bind ?_ (fun _ => ?_))
      | exact impl_Parted.mono _ _ _ _ _ _
      | exact laws_eqInt64S.mono _ _ _
      | exact laws_heldInt64S.mono _ _ _
      | exact laws_markInt64S.mono _ _ _
      | exact laws_toInt64S.mono _ _
      | exact spec_Parted.mono _ _ _ _ _ _
      | exact LeO.none _
      | refine LeO.ite ?_ ?_
      | refine LeO.bind ?_ (fun _ => ?_)
set_option maxHeartbeats 8000000 in
set_option maxRecDepth 100000 in
theorem laws_FnExactParted.calls (k : Nat) (a0 : Int) (a1 : Int) (A2 : Option Addr) (c2 : Nat) (l2 : List Int) (a3 : Int) (A4 : Option Addr) (c4 : Nat) (l4 : List Int) (r : Bool) (w : World) (hr2 : Kd.C (Kd.int .i64) w A2 l2.length l2) (hc2 : l2.length ≤ c2) (hr4 : Kd.C (Kd.int .i64) w A4 l4.length l4) (hc4 : l4.length ≤ c4) (h : laws_FnExactParted.f k a0 a1 l2 a3 l4 = some r) (hT : TabOk w) :
    Calls Tryd.prog 10 #[.int .i64 a0, .int .i64 a1, .slice A2 l2.length c2, .int .i64 a3, .slice A4 l4.length c4] w fun e w' => e = .returned (.bool r) ∧ Below w.heap.size w w' := by
  have HT := Aside0.mk hT
  clear hT
  have HR2 := Aside0.mk hr2
  have HC2 := Aside0.mk hc2
  clear hr2 hc2
  have HR4 := Aside0.mk hr4
  have HC4 := Aside0.mk hc4
  clear hr4 hc4
  have HB := Aside0.mk (Below.refl w.heap.size w)
  have H : (if (l2.length : Int) > 1048576 then (some true) else (if (l4.length : Int) > 1048576 then (some true) else ((laws_toInt64S.f k l2).bind fun t232 => ((laws_toInt64S.f k l4).bind fun t235 => ((spec_Parted.f k a0 a1 t232 a3 t235).bind fun bt238 => ((laws_toInt64S.f k l2).bind fun t242 => ((laws_toInt64S.f k l4).bind fun t245 => ((impl_Parted.f k a0 a1 t242 a3 t245).bind fun bt248 => ((laws_eqInt64S.f k bt248.1 bt238.1).bind fun t252 => (if t252 = true then (if (bt248.2 != bt238.2) = true then (none) else ((laws_toInt64S.f k l2).bind fun t253 => ((laws_eqInt64S.f k t242 t253).bind fun t256 => (if t256 = true then ((laws_toInt64S.f k l4).bind fun t257 => ((laws_eqInt64S.f k t245 t257).bind fun t260 => (if t260 = true then ((laws_markInt64S.f k t242 1).bind fun bt261 => ((laws_markInt64S.f k t245 bt261.1).bind fun bt263 => (if bt263.1 < 0 then (none) else ((laws_eqInt64S.f k bt248.1 bt238.1).bind fun t265 => (if t265 = true then ((laws_markInt64S.f k bt248.1 1).bind fun bt266 => ((laws_heldInt64S.f k bt266.2 1).bind fun t268 => (if t268 < 0 then (none) else (if t268 = bt266.1 then ((laws_toInt64S.f k l2).bind fun t269 => ((laws_toInt64S.f k l4).bind fun t272 => ((impl_Parted.f k a0 a1 t269 a3 t272).bind fun bt275 => ((laws_eqInt64S.f k bt275.1 bt238.1).bind fun t279 => (if t279 = true then (if (bt275.2 != bt238.2) = true then (none) else ((laws_heldInt64S.f k bt266.2 1).bind fun t280 => (if t280 < 0 then (none) else (if t280 = bt266.1 then (some true) else (none))))) else (none)))))) else (none))))) else (none)))))) else (none)))) else (none))))) else (none))))))))))) = some r := h
  clear h
  by_cases c6 : (l2.length : Int) > 1048576
  · rw [if_pos c6] at H
    have c6b0 : decide (1048576 < (l2.length : Int)) = true := decide_eq_true c6
    have c6b1 : decide (1048576 < l2.length) = true := decide_eq_true (by omega)
    clear c6
    obtain rfl := Option.some.inj H
    go_enter Tryd.func10, Tryd.ntmps10
    go_wp2
    go_ret
    exact ⟨by first | rfl | (simp [errW_none, errW_some] <;> rfl) | (simp [*, errW_none, errW_some] <;> rfl), by repeat (first | (with_reducible first | exact HB.out | apply below_alloc | apply pw_below_drewN | apply below_drew1) | exact HB.out)⟩
  · rw [if_neg c6] at H
    have c6b0 : decide (1048576 < (l2.length : Int)) = false := decide_eq_false c6
    have c6b1 : decide (1048576 < l2.length) = false := decide_eq_false (by omega)
    clear c6
    by_cases c7 : (l4.length : Int) > 1048576
    · rw [if_pos c7] at H
      have c7b0 : decide (1048576 < (l4.length : Int)) = true := decide_eq_true c7
      have c7b1 : decide (1048576 < l4.length) = true := decide_eq_true (by omega)
      clear c7
      obtain rfl := Option.some.inj H
      go_enter Tryd.func10, Tryd.ntmps10
      go_wp2
      go_ret
      exact ⟨by first | rfl | (simp [errW_none, errW_some] <;> rfl) | (simp [*, errW_none, errW_some] <;> rfl), by repeat (first | (with_reducible first | exact HB.out | apply below_alloc | apply pw_below_drewN | apply below_drew1) | exact HB.out)⟩
    · rw [if_neg c7] at H
      have c7b0 : decide (1048576 < (l4.length : Int)) = false := decide_eq_false c7
      have c7b1 : decide (1048576 < l4.length) = false := decide_eq_false (by omega)
      clear c7
      replace H := Option.bind_eq_some_iff.mp H
      obtain ⟨t232, A80, H⟩ := H
      replace H : ((laws_toInt64S.f k l4).bind fun t235 => ((spec_Parted.f k a0 a1 t232 a3 t235).bind fun bt238 => ((laws_toInt64S.f k l2).bind fun t242 => ((laws_toInt64S.f k l4).bind fun t245 => ((impl_Parted.f k a0 a1 t242 a3 t245).bind fun bt248 => ((laws_eqInt64S.f k bt248.1 bt238.1).bind fun t252 => (if t252 = true then (if (bt248.2 != bt238.2) = true then (none) else ((laws_toInt64S.f k l2).bind fun t253 => ((laws_eqInt64S.f k t242 t253).bind fun t256 => (if t256 = true then ((laws_toInt64S.f k l4).bind fun t257 => ((laws_eqInt64S.f k t245 t257).bind fun t260 => (if t260 = true then ((laws_markInt64S.f k t242 1).bind fun bt261 => ((laws_markInt64S.f k t245 bt261.1).bind fun bt263 => (if bt263.1 < 0 then (none) else ((laws_eqInt64S.f k bt248.1 bt238.1).bind fun t265 => (if t265 = true then ((laws_markInt64S.f k bt248.1 1).bind fun bt266 => ((laws_heldInt64S.f k bt266.2 1).bind fun t268 => (if t268 < 0 then (none) else (if t268 = bt266.1 then ((laws_toInt64S.f k l2).bind fun t269 => ((laws_toInt64S.f k l4).bind fun t272 => ((impl_Parted.f k a0 a1 t269 a3 t272).bind fun bt275 => ((laws_eqInt64S.f k bt275.1 bt238.1).bind fun t279 => (if t279 = true then (if (bt275.2 != bt238.2) = true then (none) else ((laws_heldInt64S.f k bt266.2 1).bind fun t280 => (if t280 < 0 then (none) else (if t280 = bt266.1 then (some true) else (none))))) else (none)))))) else (none))))) else (none)))))) else (none)))) else (none))))) else (none)))))))) = some r := H
      have A8 := Aside0.mk A80
      clear A80
      replace H := Option.bind_eq_some_iff.mp H
      obtain ⟨t235, A90, H⟩ := H
      replace H : ((spec_Parted.f k a0 a1 t232 a3 t235).bind fun bt238 => ((laws_toInt64S.f k l2).bind fun t242 => ((laws_toInt64S.f k l4).bind fun t245 => ((impl_Parted.f k a0 a1 t242 a3 t245).bind fun bt248 => ((laws_eqInt64S.f k bt248.1 bt238.1).bind fun t252 => (if t252 = true then (if (bt248.2 != bt238.2) = true then (none) else ((laws_toInt64S.f k l2).bind fun t253 => ((laws_eqInt64S.f k t242 t253).bind fun t256 => (if t256 = true then ((laws_toInt64S.f k l4).bind fun t257 => ((laws_eqInt64S.f k t245 t257).bind fun t260 => (if t260 = true then ((laws_markInt64S.f k t242 1).bind fun bt261 => ((laws_markInt64S.f k t245 bt261.1).bind fun bt263 => (if bt263.1 < 0 then (none) else ((laws_eqInt64S.f k bt248.1 bt238.1).bind fun t265 => (if t265 = true then ((laws_markInt64S.f k bt248.1 1).bind fun bt266 => ((laws_heldInt64S.f k bt266.2 1).bind fun t268 => (if t268 < 0 then (none) else (if t268 = bt266.1 then ((laws_toInt64S.f k l2).bind fun t269 => ((laws_toInt64S.f k l4).bind fun t272 => ((impl_Parted.f k a0 a1 t269 a3 t272).bind fun bt275 => ((laws_eqInt64S.f k bt275.1 bt238.1).bind fun t279 => (if t279 = true then (if (bt275.2 != bt238.2) = true then (none) else ((laws_heldInt64S.f k bt266.2 1).bind fun t280 => (if t280 < 0 then (none) else (if t280 = bt266.1 then (some true) else (none))))) else (none)))))) else (none))))) else (none)))))) else (none)))) else (none))))) else (none))))))) = some r := H
      have A9 := Aside0.mk A90
      clear A90
      replace H := Option.bind_eq_some_iff.mp H
      obtain ⟨⟨t238, t239⟩, A100, H⟩ := H
      replace H : ((laws_toInt64S.f k l2).bind fun t242 => ((laws_toInt64S.f k l4).bind fun t245 => ((impl_Parted.f k a0 a1 t242 a3 t245).bind fun bt248 => ((laws_eqInt64S.f k bt248.1 t238).bind fun t252 => (if t252 = true then (if (bt248.2 != t239) = true then (none) else ((laws_toInt64S.f k l2).bind fun t253 => ((laws_eqInt64S.f k t242 t253).bind fun t256 => (if t256 = true then ((laws_toInt64S.f k l4).bind fun t257 => ((laws_eqInt64S.f k t245 t257).bind fun t260 => (if t260 = true then ((laws_markInt64S.f k t242 1).bind fun bt261 => ((laws_markInt64S.f k t245 bt261.1).bind fun bt263 => (if bt263.1 < 0 then (none) else ((laws_eqInt64S.f k bt248.1 t238).bind fun t265 => (if t265 = true then ((laws_markInt64S.f k bt248.1 1).bind fun bt266 => ((laws_heldInt64S.f k bt266.2 1).bind fun t268 => (if t268 < 0 then (none) else (if t268 = bt266.1 then ((laws_toInt64S.f k l2).bind fun t269 => ((laws_toInt64S.f k l4).bind fun t272 => ((impl_Parted.f k a0 a1 t269 a3 t272).bind fun bt275 => ((laws_eqInt64S.f k bt275.1 t238).bind fun t279 => (if t279 = true then (if (bt275.2 != t239) = true then (none) else ((laws_heldInt64S.f k bt266.2 1).bind fun t280 => (if t280 < 0 then (none) else (if t280 = bt266.1 then (some true) else (none))))) else (none)))))) else (none))))) else (none)))))) else (none)))) else (none))))) else (none)))))) = some r := H
      have A10 := Aside0.mk A100
      clear A100
      replace H := Option.bind_eq_some_iff.mp H
      obtain ⟨t242, A110, H⟩ := H
      replace H : ((laws_toInt64S.f k l4).bind fun t245 => ((impl_Parted.f k a0 a1 t242 a3 t245).bind fun bt248 => ((laws_eqInt64S.f k bt248.1 t238).bind fun t252 => (if t252 = true then (if (bt248.2 != t239) = true then (none) else ((laws_toInt64S.f k l2).bind fun t253 => ((laws_eqInt64S.f k t242 t253).bind fun t256 => (if t256 = true then ((laws_toInt64S.f k l4).bind fun t257 => ((laws_eqInt64S.f k t245 t257).bind fun t260 => (if t260 = true then ((laws_markInt64S.f k t242 1).bind fun bt261 => ((laws_markInt64S.f k t245 bt261.1).bind fun bt263 => (if bt263.1 < 0 then (none) else ((laws_eqInt64S.f k bt248.1 t238).bind fun t265 => (if t265 = true then ((laws_markInt64S.f k bt248.1 1).bind fun bt266 => ((laws_heldInt64S.f k bt266.2 1).bind fun t268 => (if t268 < 0 then (none) else (if t268 = bt266.1 then ((laws_toInt64S.f k l2).bind fun t269 => ((laws_toInt64S.f k l4).bind fun t272 => ((impl_Parted.f k a0 a1 t269 a3 t272).bind fun bt275 => ((laws_eqInt64S.f k bt275.1 t238).bind fun t279 => (if t279 = true then (if (bt275.2 != t239) = true then (none) else ((laws_heldInt64S.f k bt266.2 1).bind fun t280 => (if t280 < 0 then (none) else (if t280 = bt266.1 then (some true) else (none))))) else (none)))))) else (none))))) else (none)))))) else (none)))) else (none))))) else (none))))) = some r := H
      have A11 := Aside0.mk A110
      clear A110
      replace H := Option.bind_eq_some_iff.mp H
      obtain ⟨t245, A120, H⟩ := H
      replace H : ((impl_Parted.f k a0 a1 t242 a3 t245).bind fun bt248 => ((laws_eqInt64S.f k bt248.1 t238).bind fun t252 => (if t252 = true then (if (bt248.2 != t239) = true then (none) else ((laws_toInt64S.f k l2).bind fun t253 => ((laws_eqInt64S.f k t242 t253).bind fun t256 => (if t256 = true then ((laws_toInt64S.f k l4).bind fun t257 => ((laws_eqInt64S.f k t245 t257).bind fun t260 => (if t260 = true then ((laws_markInt64S.f k t242 1).bind fun bt261 => ((laws_markInt64S.f k t245 bt261.1).bind fun bt263 => (if bt263.1 < 0 then (none) else ((laws_eqInt64S.f k bt248.1 t238).bind fun t265 => (if t265 = true then ((laws_markInt64S.f k bt248.1 1).bind fun bt266 => ((laws_heldInt64S.f k bt266.2 1).bind fun t268 => (if t268 < 0 then (none) else (if t268 = bt266.1 then ((laws_toInt64S.f k l2).bind fun t269 => ((laws_toInt64S.f k l4).bind fun t272 => ((impl_Parted.f k a0 a1 t269 a3 t272).bind fun bt275 => ((laws_eqInt64S.f k bt275.1 t238).bind fun t279 => (if t279 = true then (if (bt275.2 != t239) = true then (none) else ((laws_heldInt64S.f k bt266.2 1).bind fun t280 => (if t280 < 0 then (none) else (if t280 = bt266.1 then (some true) else (none))))) else (none)))))) else (none))))) else (none)))))) else (none)))) else (none))))) else (none)))) = some r := H
      have A12 := Aside0.mk A120
      clear A120
      replace H := Option.bind_eq_some_iff.mp H
      obtain ⟨⟨t248, t249⟩, A130, H⟩ := H
      replace H : ((laws_eqInt64S.f k t248 t238).bind fun t252 => (if t252 = true then (if (t249 != t239) = true then (none) else ((laws_toInt64S.f k l2).bind fun t253 => ((laws_eqInt64S.f k t242 t253).bind fun t256 => (if t256 = true then ((laws_toInt64S.f k l4).bind fun t257 => ((laws_eqInt64S.f k t245 t257).bind fun t260 => (if t260 = true then ((laws_markInt64S.f k t242 1).bind fun bt261 => ((laws_markInt64S.f k t245 bt261.1).bind fun bt263 => (if bt263.1 < 0 then (none) else ((laws_eqInt64S.f k t248 t238).bind fun t265 => (if t265 = true then ((laws_markInt64S.f k t248 1).bind fun bt266 => ((laws_heldInt64S.f k bt266.2 1).bind fun t268 => (if t268 < 0 then (none) else (if t268 = bt266.1 then ((laws_toInt64S.f k l2).bind fun t269 => ((laws_toInt64S.f k l4).bind fun t272 => ((impl_Parted.f k a0 a1 t269 a3 t272).bind fun bt275 => ((laws_eqInt64S.f k bt275.1 t238).bind fun t279 => (if t279 = true then (if (bt275.2 != t239) = true then (none) else ((laws_heldInt64S.f k bt266.2 1).bind fun t280 => (if t280 < 0 then (none) else (if t280 = bt266.1 then (some true) else (none))))) else (none)))))) else (none))))) else (none)))))) else (none)))) else (none))))) else (none))) = some r := H
      have A13 := Aside0.mk A130
      clear A130
      replace H := Option.bind_eq_some_iff.mp H
      obtain ⟨t252, A140, H⟩ := H
      replace H : (if t252 = true then (if (t249 != t239) = true then (none) else ((laws_toInt64S.f k l2).bind fun t253 => ((laws_eqInt64S.f k t242 t253).bind fun t256 => (if t256 = true then ((laws_toInt64S.f k l4).bind fun t257 => ((laws_eqInt64S.f k t245 t257).bind fun t260 => (if t260 = true then ((laws_markInt64S.f k t242 1).bind fun bt261 => ((laws_markInt64S.f k t245 bt261.1).bind fun bt263 => (if bt263.1 < 0 then (none) else ((laws_eqInt64S.f k t248 t238).bind fun t265 => (if t265 = true then ((laws_markInt64S.f k t248 1).bind fun bt266 => ((laws_heldInt64S.f k bt266.2 1).bind fun t268 => (if t268 < 0 then (none) else (if t268 = bt266.1 then ((laws_toInt64S.f k l2).bind fun t269 => ((laws_toInt64S.f k l4).bind fun t272 => ((impl_Parted.f k a0 a1 t269 a3 t272).bind fun bt275 => ((laws_eqInt64S.f k bt275.1 t238).bind fun t279 => (if t279 = true then (if (bt275.2 != t239) = true then (none) else ((laws_heldInt64S.f k bt266.2 1).bind fun t280 => (if t280 < 0 then (none) else (if t280 = bt266.1 then (some true) else (none))))) else (none)))))) else (none))))) else (none)))))) else (none)))) else (none))))) else (none)) = some r := H
      have A14 := Aside0.mk A140
      clear A140
      by_cases c15 : t252 = true
      · subst c15
        have H1 : (if (t249 != t239) = true then (none) else ((laws_toInt64S.f k l2).bind fun t253 => ((laws_eqInt64S.f k t242 t253).bind fun t256 => (if t256 = true then ((laws_toInt64S.f k l4).bind fun t257 => ((laws_eqInt64S.f k t245 t257).bind fun t260 => (if t260 = true then ((laws_markInt64S.f k t242 1).bind fun bt261 => ((laws_markInt64S.f k t245 bt261.1).bind fun bt263 => (if bt263.1 < 0 then (none) else ((laws_eqInt64S.f k t248 t238).bind fun t265 => (if t265 = true then ((laws_markInt64S.f k t248 1).bind fun bt266 => ((laws_heldInt64S.f k bt266.2 1).bind fun t268 => (if t268 < 0 then (none) else (if t268 = bt266.1 then ((laws_toInt64S.f k l2).bind fun t269 => ((laws_toInt64S.f k l4).bind fun t272 => ((impl_Parted.f k a0 a1 t269 a3 t272).bind fun bt275 => ((laws_eqInt64S.f k bt275.1 t238).bind fun t279 => (if t279 = true then (if (bt275.2 != t239) = true then (none) else ((laws_heldInt64S.f k bt266.2 1).bind fun t280 => (if t280 < 0 then (none) else (if t280 = bt266.1 then (some true) else (none))))) else (none)))))) else (none))))) else (none)))))) else (none)))) else (none))))) = some r := by rw [if_pos rfl] at H; exact H
        clear H
        have H := H1
        clear H1
        by_cases c16 : (t249 != t239) = true
        · rw [if_pos c16] at H
          exact absurd H (by simp)
        · rw [if_neg c16] at H
          have c16b0 : (t249 != t239) = false := by simpa using c16
          (try (have c16b1 : decide (t249 = t239) = true := by simpa using c16))
          (try (have c16b2 : (t249 == t239) = true := by simpa using c16))
          clear c16
          replace H := Option.bind_eq_some_iff.mp H
          obtain ⟨t253, A170, H⟩ := H
          replace H : ((laws_eqInt64S.f k t242 t253).bind fun t256 => (if t256 = true then ((laws_toInt64S.f k l4).bind fun t257 => ((laws_eqInt64S.f k t245 t257).bind fun t260 => (if t260 = true then ((laws_markInt64S.f k t242 1).bind fun bt261 => ((laws_markInt64S.f k t245 bt261.1).bind fun bt263 => (if bt263.1 < 0 then (none) else ((laws_eqInt64S.f k t248 t238).bind fun t265 => (if t265 = true then ((laws_markInt64S.f k t248 1).bind fun bt266 => ((laws_heldInt64S.f k bt266.2 1).bind fun t268 => (if t268 < 0 then (none) else (if t268 = bt266.1 then ((laws_toInt64S.f k l2).bind fun t269 => ((laws_toInt64S.f k l4).bind fun t272 => ((impl_Parted.f k a0 a1 t269 a3 t272).bind fun bt275 => ((laws_eqInt64S.f k bt275.1 t238).bind fun t279 => (if t279 = true then (if (bt275.2 != t239) = true then (none) else ((laws_heldInt64S.f k bt266.2 1).bind fun t280 => (if t280 < 0 then (none) else (if t280 = bt266.1 then (some true) else (none))))) else (none)))))) else (none))))) else (none)))))) else (none)))) else (none))) = some r := H
          have A17 := Aside0.mk A170
          clear A170
          replace H := Option.bind_eq_some_iff.mp H
          obtain ⟨t256, A180, H⟩ := H
          replace H : (if t256 = true then ((laws_toInt64S.f k l4).bind fun t257 => ((laws_eqInt64S.f k t245 t257).bind fun t260 => (if t260 = true then ((laws_markInt64S.f k t242 1).bind fun bt261 => ((laws_markInt64S.f k t245 bt261.1).bind fun bt263 => (if bt263.1 < 0 then (none) else ((laws_eqInt64S.f k t248 t238).bind fun t265 => (if t265 = true then ((laws_markInt64S.f k t248 1).bind fun bt266 => ((laws_heldInt64S.f k bt266.2 1).bind fun t268 => (if t268 < 0 then (none) else (if t268 = bt266.1 then ((laws_toInt64S.f k l2).bind fun t269 => ((laws_toInt64S.f k l4).bind fun t272 => ((impl_Parted.f k a0 a1 t269 a3 t272).bind fun bt275 => ((laws_eqInt64S.f k bt275.1 t238).bind fun t279 => (if t279 = true then (if (bt275.2 != t239) = true then (none) else ((laws_heldInt64S.f k bt266.2 1).bind fun t280 => (if t280 < 0 then (none) else (if t280 = bt266.1 then (some true) else (none))))) else (none)))))) else (none))))) else (none)))))) else (none)))) else (none)) = some r := H
          have A18 := Aside0.mk A180
          clear A180
          by_cases c19 : t256 = true
          · subst c19
            have H1 : ((laws_toInt64S.f k l4).bind fun t257 => ((laws_eqInt64S.f k t245 t257).bind fun t260 => (if t260 = true then ((laws_markInt64S.f k t242 1).bind fun bt261 => ((laws_markInt64S.f k t245 bt261.1).bind fun bt263 => (if bt263.1 < 0 then (none) else ((laws_eqInt64S.f k t248 t238).bind fun t265 => (if t265 = true then ((laws_markInt64S.f k t248 1).bind fun bt266 => ((laws_heldInt64S.f k bt266.2 1).bind fun t268 => (if t268 < 0 then (none) else (if t268 = bt266.1 then ((laws_toInt64S.f k l2).bind fun t269 => ((laws_toInt64S.f k l4).bind fun t272 => ((impl_Parted.f k a0 a1 t269 a3 t272).bind fun bt275 => ((laws_eqInt64S.f k bt275.1 t238).bind fun t279 => (if t279 = true then (if (bt275.2 != t239) = true then (none) else ((laws_heldInt64S.f k bt266.2 1).bind fun t280 => (if t280 < 0 then (none) else (if t280 = bt266.1 then (some true) else (none))))) else (none)))))) else (none))))) else (none)))))) else (none)))) = some r := by rw [if_pos rfl] at H; exact H
            clear H
            have H := H1
            clear H1
            replace H := Option.bind_eq_some_iff.mp H
            obtain ⟨t257, A200, H⟩ := H
            replace H : ((laws_eqInt64S.f k t245 t257).bind fun t260 => (if t260 = true then ((laws_markInt64S.f k t242 1).bind fun bt261 => ((laws_markInt64S.f k t245 bt261.1).bind fun bt263 => (if bt263.1 < 0 then (none) else ((laws_eqInt64S.f k t248 t238).bind fun t265 => (if t265 = true then ((laws_markInt64S.f k t248 1).bind fun bt266 => ((laws_heldInt64S.f k bt266.2 1).bind fun t268 => (if t268 < 0 then (none) else (if t268 = bt266.1 then ((laws_toInt64S.f k l2).bind fun t269 => ((laws_toInt64S.f k l4).bind fun t272 => ((impl_Parted.f k a0 a1 t269 a3 t272).bind fun bt275 => ((laws_eqInt64S.f k bt275.1 t238).bind fun t279 => (if t279 = true then (if (bt275.2 != t239) = true then (none) else ((laws_heldInt64S.f k bt266.2 1).bind fun t280 => (if t280 < 0 then (none) else (if t280 = bt266.1 then (some true) else (none))))) else (none)))))) else (none))))) else (none)))))) else (none))) = some r := H
            have A20 := Aside0.mk A200
            clear A200
            replace H := Option.bind_eq_some_iff.mp H
            obtain ⟨t260, A210, H⟩ := H
            replace H : (if t260 = true then ((laws_markInt64S.f k t242 1).bind fun bt261 => ((laws_markInt64S.f k t245 bt261.1).bind fun bt263 => (if bt263.1 < 0 then (none) else ((laws_eqInt64S.f k t248 t238).bind fun t265 => (if t265 = true then ((laws_markInt64S.f k t248 1).bind fun bt266 => ((laws_heldInt64S.f k bt266.2 1).bind fun t268 => (if t268 < 0 then (none) else (if t268 = bt266.1 then ((laws_toInt64S.f k l2).bind fun t269 => ((laws_toInt64S.f k l4).bind fun t272 => ((impl_Parted.f k a0 a1 t269 a3 t272).bind fun bt275 => ((laws_eqInt64S.f k bt275.1 t238).bind fun t279 => (if t279 = true then (if (bt275.2 != t239) = true then (none) else ((laws_heldInt64S.f k bt266.2 1).bind fun t280 => (if t280 < 0 then (none) else (if t280 = bt266.1 then (some true) else (none))))) else (none)))))) else (none))))) else (none)))))) else (none)) = some r := H
            have A21 := Aside0.mk A210
            clear A210
            by_cases c22 : t260 = true
            · subst c22
              have H1 : ((laws_markInt64S.f k t242 1).bind fun bt261 => ((laws_markInt64S.f k t245 bt261.1).bind fun bt263 => (if bt263.1 < 0 then (none) else ((laws_eqInt64S.f k t248 t238).bind fun t265 => (if t265 = true then ((laws_markInt64S.f k t248 1).bind fun bt266 => ((laws_heldInt64S.f k bt266.2 1).bind fun t268 => (if t268 < 0 then (none) else (if t268 = bt266.1 then ((laws_toInt64S.f k l2).bind fun t269 => ((laws_toInt64S.f k l4).bind fun t272 => ((impl_Parted.f k a0 a1 t269 a3 t272).bind fun bt275 => ((laws_eqInt64S.f k bt275.1 t238).bind fun t279 => (if t279 = true then (if (bt275.2 != t239) = true then (none) else ((laws_heldInt64S.f k bt266.2 1).bind fun t280 => (if t280 < 0 then (none) else (if t280 = bt266.1 then (some true) else (none))))) else (none)))))) else (none))))) else (none)))))) = some r := by rw [if_pos rfl] at H; exact H
              clear H
              have H := H1
              clear H1
              replace H := Option.bind_eq_some_iff.mp H
              obtain ⟨⟨t261, t262⟩, A230, H⟩ := H
              replace H : ((laws_markInt64S.f k t245 t261).bind fun bt263 => (if bt263.1 < 0 then (none) else ((laws_eqInt64S.f k t248 t238).bind fun t265 => (if t265 = true then ((laws_markInt64S.f k t248 1).bind fun bt266 => ((laws_heldInt64S.f k bt266.2 1).bind fun t268 => (if t268 < 0 then (none) else (if t268 = bt266.1 then ((laws_toInt64S.f k l2).bind fun t269 => ((laws_toInt64S.f k l4).bind fun t272 => ((impl_Parted.f k a0 a1 t269 a3 t272).bind fun bt275 => ((laws_eqInt64S.f k bt275.1 t238).bind fun t279 => (if t279 = true then (if (bt275.2 != t239) = true then (none) else ((laws_heldInt64S.f k bt266.2 1).bind fun t280 => (if t280 < 0 then (none) else (if t280 = bt266.1 then (some true) else (none))))) else (none)))))) else (none))))) else (none))))) = some r := H
              have A23 := Aside0.mk A230
              clear A230
              replace H := Option.bind_eq_some_iff.mp H
              obtain ⟨⟨t263, t264⟩, A240, H⟩ := H
              replace H : (if t263 < 0 then (none) else ((laws_eqInt64S.f k t248 t238).bind fun t265 => (if t265 = true then ((laws_markInt64S.f k t248 1).bind fun bt266 => ((laws_heldInt64S.f k bt266.2 1).bind fun t268 => (if t268 < 0 then (none) else (if t268 = bt266.1 then ((laws_toInt64S.f k l2).bind fun t269 => ((laws_toInt64S.f k l4).bind fun t272 => ((impl_Parted.f k a0 a1 t269 a3 t272).bind fun bt275 => ((laws_eqInt64S.f k bt275.1 t238).bind fun t279 => (if t279 = true then (if (bt275.2 != t239) = true then (none) else ((laws_heldInt64S.f k bt266.2 1).bind fun t280 => (if t280 < 0 then (none) else (if t280 = bt266.1 then (some true) else (none))))) else (none)))))) else (none))))) else (none)))) = some r := H
              have A24 := Aside0.mk A240
              clear A240
              by_cases c25 : t263 < 0
              · rw [if_pos c25] at H
                exact absurd H (by simp)
              · rw [if_neg c25] at H
                have c25b0 : decide (t263 < 0) = false := decide_eq_false c25
                clear c25
                replace H := Option.bind_eq_some_iff.mp H
                obtain ⟨t265, A260, H⟩ := H
                replace H : (if t265 = true then ((laws_markInt64S.f k t248 1).bind fun bt266 => ((laws_heldInt64S.f k bt266.2 1).bind fun t268 => (if t268 < 0 then (none) else (if t268 = bt266.1 then ((laws_toInt64S.f k l2).bind fun t269 => ((laws_toInt64S.f k l4).bind fun t272 => ((impl_Parted.f k a0 a1 t269 a3 t272).bind fun bt275 => ((laws_eqInt64S.f k bt275.1 t238).bind fun t279 => (if t279 = true then (if (bt275.2 != t239) = true then (none) else ((laws_heldInt64S.f k bt266.2 1).bind fun t280 => (if t280 < 0 then (none) else (if t280 = bt266.1 then (some true) else (none))))) else (none)))))) else (none))))) else (none)) = some r := H
                have A26 := Aside0.mk A260
                clear A260
                by_cases c27 : t265 = true
                · subst c27
                  have H1 : ((laws_markInt64S.f k t248 1).bind fun bt266 => ((laws_heldInt64S.f k bt266.2 1).bind fun t268 => (if t268 < 0 then (none) else (if t268 = bt266.1 then ((laws_toInt64S.f k l2).bind fun t269 => ((laws_toInt64S.f k l4).bind fun t272 => ((impl_Parted.f k a0 a1 t269 a3 t272).bind fun bt275 => ((laws_eqInt64S.f k bt275.1 t238).bind fun t279 => (if t279 = true then (if (bt275.2 != t239) = true then (none) else ((laws_heldInt64S.f k bt266.2 1).bind fun t280 => (if t280 < 0 then (none) else (if t280 = bt266.1 then (some true) else (none))))) else (none)))))) else (none))))) = some r := by rw [if_pos rfl] at H; exact H
                  clear H
                  have H := H1
                  clear H1
                  replace H := Option.bind_eq_some_iff.mp H
                  obtain ⟨⟨t266, t267⟩, A280, H⟩ := H
                  replace H : ((laws_heldInt64S.f k t267 1).bind fun t268 => (if t268 < 0 then (none) else (if t268 = t266 then ((laws_toInt64S.f k l2).bind fun t269 => ((laws_toInt64S.f k l4).bind fun t272 => ((impl_Parted.f k a0 a1 t269 a3 t272).bind fun bt275 => ((laws_eqInt64S.f k bt275.1 t238).bind fun t279 => (if t279 = true then (if (bt275.2 != t239) = true then (none) else ((laws_heldInt64S.f k t267 1).bind fun t280 => (if t280 < 0 then (none) else (if t280 = t266 then (some true) else (none))))) else (none)))))) else (none)))) = some r := H
                  have A28 := Aside0.mk A280
                  clear A280
                  replace H := Option.bind_eq_some_iff.mp H
                  obtain ⟨t268, A290, H⟩ := H
                  replace H : (if t268 < 0 then (none) else (if t268 = t266 then ((laws_toInt64S.f k l2).bind fun t269 => ((laws_toInt64S.f k l4).bind fun t272 => ((impl_Parted.f k a0 a1 t269 a3 t272).bind fun bt275 => ((laws_eqInt64S.f k bt275.1 t238).bind fun t279 => (if t279 = true then (if (bt275.2 != t239) = true then (none) else ((laws_heldInt64S.f k t267 1).bind fun t280 => (if t280 < 0 then (none) else (if t280 = t266 then (some true) else (none))))) else (none)))))) else (none))) = some r := H
                  have A29 := Aside0.mk A290
                  clear A290
                  by_cases c30 : t268 < 0
                  · rw [if_pos c30] at H
                    exact absurd H (by simp)
                  · rw [if_neg c30] at H
                    have c30b0 : decide (t268 < 0) = false := decide_eq_false c30
                    clear c30
                    by_cases c31 : t268 = t266
                    · rw [if_pos c31] at H
                      have c31b0 : (t268 == t266) = true := beq_iff_eq.mpr c31
                      have c31b1 : (t268 != t266) = false := bne_eq_false_iff_eq.mpr c31
                      clear c31
                      replace H := Option.bind_eq_some_iff.mp H
                      obtain ⟨t269, A320, H⟩ := H
                      replace H : ((laws_toInt64S.f k l4).bind fun t272 => ((impl_Parted.f k a0 a1 t269 a3 t272).bind fun bt275 => ((laws_eqInt64S.f k bt275.1 t238).bind fun t279 => (if t279 = true then (if (bt275.2 != t239) = true then (none) else ((laws_heldInt64S.f k t267 1).bind fun t280 => (if t280 < 0 then (none) else (if t280 = t266 then (some true) else (none))))) else (none))))) = some r := H
                      have A32 := Aside0.mk A320
                      clear A320
                      replace H := Option.bind_eq_some_iff.mp H
                      obtain ⟨t272, A330, H⟩ := H
                      replace H : ((impl_Parted.f k a0 a1 t269 a3 t272).bind fun bt275 => ((laws_eqInt64S.f k bt275.1 t238).bind fun t279 => (if t279 = true then (if (bt275.2 != t239) = true then (none) else ((laws_heldInt64S.f k t267 1).bind fun t280 => (if t280 < 0 then (none) else (if t280 = t266 then (some true) else (none))))) else (none)))) = some r := H
                      have A33 := Aside0.mk A330
                      clear A330
                      replace H := Option.bind_eq_some_iff.mp H
                      obtain ⟨⟨t275, t276⟩, A340, H⟩ := H
                      replace H : ((laws_eqInt64S.f k t275 t238).bind fun t279 => (if t279 = true then (if (t276 != t239) = true then (none) else ((laws_heldInt64S.f k t267 1).bind fun t280 => (if t280 < 0 then (none) else (if t280 = t266 then (some true) else (none))))) else (none))) = some r := H
                      have A34 := Aside0.mk A340
                      clear A340
                      replace H := Option.bind_eq_some_iff.mp H
                      obtain ⟨t279, A350, H⟩ := H
                      replace H : (if t279 = true then (if (t276 != t239) = true then (none) else ((laws_heldInt64S.f k t267 1).bind fun t280 => (if t280 < 0 then (none) else (if t280 = t266 then (some true) else (none))))) else (none)) = some r := H
                      have A35 := Aside0.mk A350
                      clear A350
                      by_cases c36 : t279 = true
                      · subst c36
                        have H1 : (if (t276 != t239) = true then (none) else ((laws_heldInt64S.f k t267 1).bind fun t280 => (if t280 < 0 then (none) else (if t280 = t266 then (some true) else (none))))) = some r := by rw [if_pos rfl] at H; exact H
                        clear H
                        have H := H1
                        clear H1
                        by_cases c37 : (t276 != t239) = true
                        · rw [if_pos c37] at H
                          exact absurd H (by simp)
                        · rw [if_neg c37] at H
                          have c37b0 : (t276 != t239) = false := by simpa using c37
                          (try (have c37b1 : decide (t276 = t239) = true := by simpa using c37))
                          (try (have c37b2 : (t276 == t239) = true := by simpa using c37))
                          clear c37
                          replace H := Option.bind_eq_some_iff.mp H
                          obtain ⟨t280, A380, H⟩ := H
                          replace H : (if t280 < 0 then (none) else (if t280 = t266 then (some true) else (none))) = some r := H
                          have A38 := Aside0.mk A380
                          clear A380
                          by_cases c39 : t280 < 0
                          · rw [if_pos c39] at H
                            exact absurd H (by simp)
                          · rw [if_neg c39] at H
                            have c39b0 : decide (t280 < 0) = false := decide_eq_false c39
                            clear c39
                            by_cases c40 : t280 = t266
                            · rw [if_pos c40] at H
                              have c40b0 : (t280 == t266) = true := beq_iff_eq.mpr c40
                              have c40b1 : (t280 != t266) = false := bne_eq_false_iff_eq.mpr c40
                              clear c40
                              obtain rfl := Option.some.inj H
                              go_enter Tryd.func10, Tryd.ntmps10
                              go_wp2_with (first | ((with_reducible refine gate_callee (f := 27) rfl ?_); refine goesL_ (some 32) rfl rfl Tryd.func27 (by kernel_rfl) rfl #[.slice A2 l2.length c2] rfl (by (try simp only [List.map_toArray, List.map_cons, List.map_nil]); first | done | rfl | (simp only [List.length_drop, List.length_take]; rfl)) ?_; (with_reducible refine (laws_toInt64S.calls k _ _ l2 t232 _ ?side1 ?side2 A8.out).mono ?_); (case side1 => repeat (first | exact HR2.out | (with_reducible refine Kd.C_alloc ?_ _) | (with_reducible refine Kd.C_drewN ?_ _) | (with_reducible refine Kd.C_drew ?_))); (case side2 => exact HC2.out); rintro e w41 ⟨v233, rfl, ho0, hb⟩; refine ⟨_, rfl, ?_⟩; have n0_ := Aside0.mk (Kd.R_lower ho0 (below_size (by repeat (first | (with_reducible first | exact HB.out | apply below_alloc | apply pw_below_drewN | apply below_drew1) | exact HB.out)))); have n1_ := Aside0.mk (below_step (by repeat (first | (with_reducible first | exact HB.out | apply below_alloc | apply pw_below_drewN | apply below_drew1) | exact HB.out)) hb); clear HB; have HO234 := n0_; have HB := n1_; clear n0_ n1_; (try clear hb); (try clear hb2); (try clear hk); (try clear hi); (try clear ho0)) | ((with_reducible refine gate_callee (f := 27) rfl ?_); refine goesL_ (some 35) rfl rfl Tryd.func27 (by kernel_rfl) rfl #[.slice A4 l4.length c4] rfl (by (try simp only [List.map_toArray, List.map_cons, List.map_nil]); first | done | rfl | (simp only [List.length_drop, List.length_take]; rfl)) ?_; (with_reducible refine (laws_toInt64S.calls k _ _ l4 t235 _ ?side1 ?side2 A9.out).mono ?_); (case side1 => repeat (first | exact (Kd.C_below HR4.out HB.out) | (with_reducible refine Kd.C_alloc ?_ _) | (with_reducible refine Kd.C_drewN ?_ _) | (with_reducible refine Kd.C_drew ?_))); (case side2 => exact HC4.out); rintro e w42 ⟨v236, rfl, ho0, hb⟩; refine ⟨_, rfl, ?_⟩; have n0_ := Aside0.mk (Kd.R_elder' (by (with_reducible repeat (first | apply Kd.R_alloc | apply Kd.R_drewN | apply Kd.R_drew)); exact HO234.out) (Kd.R_base ho0) hb); have n1_ := Aside0.mk (Kd.R_lower (Kd.R_new' ho0 (Kd.R_lt (by (with_reducible repeat (first | apply Kd.R_alloc | apply Kd.R_drewN | apply Kd.R_drew)); exact HO234.out))) (below_size (by repeat (first | (with_reducible first | exact HB.out | apply below_alloc | apply pw_below_drewN | apply below_drew1) | exact HB.out)))); have n2_ := Aside0.mk (below_step (by repeat (first | (with_reducible first | exact HB.out | apply below_alloc | apply pw_below_drewN | apply below_drew1) | exact HB.out)) hb); clear HO234; clear HB; have HO234 := n0_; have HO237 := n1_; have HB := n2_; clear n0_ n1_ n2_; (try clear hb); (try clear hb2); (try clear hk); (try clear hi); (try clear ho0); obtain ⟨Ao43, co43, eo43⟩ := Kd.R_slice HO234.out; subst eo43; obtain ⟨Ao44, co44, eo44⟩ := Kd.R_slice HO237.out; subst eo44) | ((with_reducible refine gate_callee (f := 40) rfl ?_); refine goesL_ (some 36) rfl rfl Tryd.func40 (by kernel_rfl) rfl #[.int .i64 a0, .int .i64 a1, .slice Ao43 t232.length co43, .int .i64 a3, .slice Ao44 t235.length co44] rfl (by (try simp only [List.map_toArray, List.map_cons, List.map_nil]); first | done | rfl | (simp only [List.length_drop, List.length_take]; rfl)) ?_; (with_reducible refine (spec_Parted.calls k a0 a1 _ _ t232 a3 _ _ t235 t238 t239 _ ?side1 ?side2 ?side3 ?side4 A10.out).mono ?_); (case side1 => repeat (first | exact (Kd.R_reads' HO234.out).2.2 | (with_reducible refine Kd.C_alloc ?_ _) | (with_reducible refine Kd.C_drewN ?_ _) | (with_reducible refine Kd.C_drew ?_))); (case side2 => exact (Kd.R_reads' HO234.out).2.1); (case side3 => repeat (first | exact (Kd.R_reads' HO237.out).2.2 | (with_reducible refine Kd.C_alloc ?_ _) | (with_reducible refine Kd.C_drewN ?_ _) | (with_reducible refine Kd.C_drew ?_))); (case side4 => exact (Kd.R_reads' HO237.out).2.1); rintro e w45 ⟨v240, rfl, ho0, hb⟩; refine ⟨_, rfl, ?_⟩; have n0_ := Aside0.mk (Kd.R_elder' (by (with_reducible repeat (first | apply Kd.R_alloc | apply Kd.R_drewN | apply Kd.R_drew)); exact HO234.out) (Kd.R_base ho0) hb); have n1_ := Aside0.mk (Kd.R_elder' (by (with_reducible repeat (first | apply Kd.R_alloc | apply Kd.R_drewN | apply Kd.R_drew)); exact HO237.out) (Kd.R_base ho0) hb); have n2_ := Aside0.mk (Kd.R_lower (Kd.R_new' (Kd.R_new' ho0 (Kd.R_lt (by (with_reducible repeat (first | apply Kd.R_alloc | apply Kd.R_drewN | apply Kd.R_drew)); exact HO234.out))) (Kd.R_lt (by (with_reducible repeat (first | apply Kd.R_alloc | apply Kd.R_drewN | apply Kd.R_drew)); exact HO237.out))) (below_size (by repeat (first | (with_reducible first | exact HB.out | apply below_alloc | apply pw_below_drewN | apply below_drew1) | exact HB.out)))); have n3_ := Aside0.mk (below_step (by repeat (first | (with_reducible first | exact HB.out | apply below_alloc | apply pw_below_drewN | apply below_drew1) | exact HB.out)) hb); clear HO234; clear HO237; clear HB; have HO234 := n0_; have HO237 := n1_; have HO241 := n2_; have HB := n3_; clear n0_ n1_ n2_ n3_; (try clear hb); (try clear hb2); (try clear hk); (try clear hi); (try clear ho0)) | ((with_reducible refine gate_callee (f := 27) rfl ?_); refine goesL_ (some 40) rfl rfl Tryd.func27 (by kernel_rfl) rfl #[.slice A2 l2.length c2] rfl (by (try simp only [List.map_toArray, List.map_cons, List.map_nil]); first | done | rfl | (simp only [List.length_drop, List.length_take]; rfl)) ?_; (with_reducible refine (laws_toInt64S.calls k _ _ l2 t242 _ ?side1 ?side2 A11.out).mono ?_); (case side1 => repeat (first | exact (Kd.C_below HR2.out HB.out) | (with_reducible refine Kd.C_alloc ?_ _) | (with_reducible refine Kd.C_drewN ?_ _) | (with_reducible refine Kd.C_drew ?_))); (case side2 => exact HC2.out); rintro e w46 ⟨v243, rfl, ho0, hb⟩; refine ⟨_, rfl, ?_⟩; have n0_ := Aside0.mk (Kd.R_elder' (by (with_reducible repeat (first | apply Kd.R_alloc | apply Kd.R_drewN | apply Kd.R_drew)); exact HO241.out) (Kd.R_base ho0) hb); have n1_ := Aside0.mk (Kd.R_lower (Kd.R_new' ho0 (Kd.R_lt (by (with_reducible repeat (first | apply Kd.R_alloc | apply Kd.R_drewN | apply Kd.R_drew)); exact HO241.out))) (below_size (by repeat (first | (with_reducible first | exact HB.out | apply below_alloc | apply pw_below_drewN | apply below_drew1) | exact HB.out)))); have n2_ := Aside0.mk (below_step (by repeat (first | (with_reducible first | exact HB.out | apply below_alloc | apply pw_below_drewN | apply below_drew1) | exact HB.out)) hb); clear HO241; clear HB; have HO241 := n0_; have HO244 := n1_; have HB := n2_; clear n0_ n1_ n2_; (try clear hb); (try clear hb2); (try clear hk); (try clear hi); (try clear ho0)) | ((with_reducible refine gate_callee (f := 27) rfl ?_); refine goesL_ (some 42) rfl rfl Tryd.func27 (by kernel_rfl) rfl #[.slice A4 l4.length c4] rfl (by (try simp only [List.map_toArray, List.map_cons, List.map_nil]); first | done | rfl | (simp only [List.length_drop, List.length_take]; rfl)) ?_; (with_reducible refine (laws_toInt64S.calls k _ _ l4 t245 _ ?side1 ?side2 A12.out).mono ?_); (case side1 => repeat (first | exact (Kd.C_below HR4.out HB.out) | (with_reducible refine Kd.C_alloc ?_ _) | (with_reducible refine Kd.C_drewN ?_ _) | (with_reducible refine Kd.C_drew ?_))); (case side2 => exact HC4.out); rintro e w47 ⟨v246, rfl, ho0, hb⟩; refine ⟨_, rfl, ?_⟩; have n0_ := Aside0.mk (Kd.R_elder' (by (with_reducible repeat (first | apply Kd.R_alloc | apply Kd.R_drewN | apply Kd.R_drew)); exact HO241.out) (Kd.R_base ho0) hb); have n1_ := Aside0.mk (Kd.R_elder' (by (with_reducible repeat (first | apply Kd.R_alloc | apply Kd.R_drewN | apply Kd.R_drew)); exact HO244.out) (Kd.R_base ho0) hb); have n2_ := Aside0.mk (Kd.R_lower (Kd.R_new' (Kd.R_new' ho0 (Kd.R_lt (by (with_reducible repeat (first | apply Kd.R_alloc | apply Kd.R_drewN | apply Kd.R_drew)); exact HO241.out))) (Kd.R_lt (by (with_reducible repeat (first | apply Kd.R_alloc | apply Kd.R_drewN | apply Kd.R_drew)); exact HO244.out))) (below_size (by repeat (first | (with_reducible first | exact HB.out | apply below_alloc | apply pw_below_drewN | apply below_drew1) | exact HB.out)))); have n3_ := Aside0.mk (below_step (by repeat (first | (with_reducible first | exact HB.out | apply below_alloc | apply pw_below_drewN | apply below_drew1) | exact HB.out)) hb); clear HO241; clear HO244; clear HB; have HO241 := n0_; have HO244 := n1_; have HO247 := n2_; have HB := n3_; clear n0_ n1_ n2_ n3_; (try clear hb); (try clear hb2); (try clear hk); (try clear hi); (try clear ho0); obtain ⟨Ao48, co48, eo48⟩ := Kd.R_slice HO244.out; subst eo48; obtain ⟨Ao49, co49, eo49⟩ := Kd.R_slice HO247.out; subst eo49) | ((with_reducible refine gate_callee (f := 41) rfl ?_); refine goesL_ (some 49) rfl rfl Tryd.func41 (by kernel_rfl) rfl #[.int .i64 a0, .int .i64 a1, .slice Ao48 t242.length co48, .int .i64 a3, .slice Ao49 t245.length co49] rfl (by (try simp only [List.map_toArray, List.map_cons, List.map_nil]); first | done | rfl | (simp only [List.length_drop, List.length_take]; rfl)) ?_; (with_reducible refine (impl_Parted.calls k a0 a1 _ _ t242 a3 _ _ t245 t248 t249 _ ?side1 ?side2 ?side3 ?side4 A13.out (tab_at HT.out (by repeat (first | (with_reducible first | exact HB.out | apply below_alloc | apply pw_below_drewN | apply below_drew1 | (refine below_set ?_ (Aside0.out (by assumption)))) | exact HB.out)))).mono ?_); (case side1 => repeat (first | exact (Kd.R_reads' HO244.out).2.2 | (with_reducible refine Kd.C_alloc ?_ _) | (with_reducible refine Kd.C_drewN ?_ _) | (with_reducible refine Kd.C_drew ?_))); (case side2 => exact (Kd.R_reads' HO244.out).2.1); (case side3 => repeat (first | exact (Kd.R_reads' HO247.out).2.2 | (with_reducible refine Kd.C_alloc ?_ _) | (with_reducible refine Kd.C_drewN ?_ _) | (with_reducible refine Kd.C_drew ?_))); (case side4 => exact (Kd.R_reads' HO247.out).2.1); rintro e w50 ⟨v250, rfl, ho0, hb⟩; refine ⟨_, rfl, ?_⟩; have n0_ := Aside0.mk (Kd.R_elder' (by (with_reducible repeat (first | apply Kd.R_alloc | apply Kd.R_drewN | apply Kd.R_drew)); exact HO241.out) (Kd.R_base ho0) hb); have n1_ := Aside0.mk (Kd.R_elder' (by (with_reducible repeat (first | apply Kd.R_alloc | apply Kd.R_drewN | apply Kd.R_drew)); exact HO244.out) (Kd.R_base ho0) hb); have n2_ := Aside0.mk (Kd.R_elder' (by (with_reducible repeat (first | apply Kd.R_alloc | apply Kd.R_drewN | apply Kd.R_drew)); exact HO247.out) (Kd.R_base ho0) hb); have n3_ := Aside0.mk (Kd.R_lower (Kd.R_new' (Kd.R_new' (Kd.R_new' ho0 (Kd.R_lt (by (with_reducible repeat (first | apply Kd.R_alloc | apply Kd.R_drewN | apply Kd.R_drew)); exact HO241.out))) (Kd.R_lt (by (with_reducible repeat (first | apply Kd.R_alloc | apply Kd.R_drewN | apply Kd.R_drew)); exact HO244.out))) (Kd.R_lt (by (with_reducible repeat (first | apply Kd.R_alloc | apply Kd.R_drewN | apply Kd.R_drew)); exact HO247.out))) (below_size (by repeat (first | (with_reducible first | exact HB.out | apply below_alloc | apply pw_below_drewN | apply below_drew1) | exact HB.out)))); have n4_ := Aside0.mk (below_step (by repeat (first | (with_reducible first | exact HB.out | apply below_alloc | apply pw_below_drewN | apply below_drew1) | exact HB.out)) hb); clear HO241; clear HO244; clear HO247; clear HB; have HO241 := n0_; have HO244 := n1_; have HO247 := n2_; have HO251 := n3_; have HB := n4_; clear n0_ n1_ n2_ n3_ n4_; (try clear hb); (try clear hb2); (try clear hk); (try clear hi); (try clear ho0); obtain ⟨Ao51, co51, eo51⟩ := Kd.R_slice HO251.out; subst eo51; obtain ⟨Ao52, co52, eo52⟩ := Kd.R_slice HO241.out; subst eo52) | ((with_reducible refine gate_callee (f := 29) rfl ?_); refine goesL_ (some 54) rfl rfl Tryd.func29 (by kernel_rfl) rfl #[.slice Ao51 t248.length co51, .slice Ao52 t238.length co52] rfl (by (try simp only [List.map_toArray, List.map_cons, List.map_nil]); first | done | rfl | (simp only [List.length_drop, List.length_take]; rfl)) ?_; (with_reducible refine (laws_eqInt64S.calls k _ _ t248 _ _ t238 true _ ?side1 ?side2 ?side3 ?side4 A14.out).mono ?_); (case side1 => repeat (first | exact (Kd.R_reads' HO251.out).2.2 | (with_reducible refine Kd.C_alloc ?_ _) | (with_reducible refine Kd.C_drewN ?_ _) | (with_reducible refine Kd.C_drew ?_))); (case side2 => exact (Kd.R_reads' HO251.out).2.1); (case side3 => repeat (first | exact (Kd.R_reads' HO241.out).2.2 | (with_reducible refine Kd.C_alloc ?_ _) | (with_reducible refine Kd.C_drewN ?_ _) | (with_reducible refine Kd.C_drew ?_))); (case side4 => exact (Kd.R_reads' HO241.out).2.1); rintro e w' ⟨rfl, ⟨nd, rfl⟩⟩; refine ⟨_, rfl, ?_⟩) | ((with_reducible refine gate_callee (f := 27) rfl ?_); refine goesL_ (some 63) rfl rfl Tryd.func27 (by kernel_rfl) rfl #[.slice A2 l2.length c2] rfl (by (try simp only [List.map_toArray, List.map_cons, List.map_nil]); first | done | rfl | (simp only [List.length_drop, List.length_take]; rfl)) ?_; (with_reducible refine (laws_toInt64S.calls k _ _ l2 t253 _ ?side1 ?side2 A17.out).mono ?_); (case side1 => repeat (first | exact (Kd.C_below HR2.out (by repeat (first | (with_reducible first | exact HB.out | apply below_alloc | apply pw_below_drewN | apply below_drew1) | exact HB.out))) | (with_reducible refine Kd.C_alloc ?_ _) | (with_reducible refine Kd.C_drewN ?_ _) | (with_reducible refine Kd.C_drew ?_))); (case side2 => exact HC2.out); rintro e w53 ⟨v254, rfl, ho0, hb⟩; refine ⟨_, rfl, ?_⟩; have n0_ := Aside0.mk (Kd.R_elder' (by (with_reducible repeat (first | apply Kd.R_alloc | apply Kd.R_drewN | apply Kd.R_drew)); exact HO241.out) (Kd.R_base ho0) hb); have n1_ := Aside0.mk (Kd.R_elder' (by (with_reducible repeat (first | apply Kd.R_alloc | apply Kd.R_drewN | apply Kd.R_drew)); exact HO244.out) (Kd.R_base ho0) hb); have n2_ := Aside0.mk (Kd.R_elder' (by (with_reducible repeat (first | apply Kd.R_alloc | apply Kd.R_drewN | apply Kd.R_drew)); exact HO247.out) (Kd.R_base ho0) hb); have n3_ := Aside0.mk (Kd.R_elder' (by (with_reducible repeat (first | apply Kd.R_alloc | apply Kd.R_drewN | apply Kd.R_drew)); exact HO251.out) (Kd.R_base ho0) hb); have n4_ := Aside0.mk (Kd.R_lower (Kd.R_new' (Kd.R_new' (Kd.R_new' (Kd.R_new' ho0 (Kd.R_lt (by (with_reducible repeat (first | apply Kd.R_alloc | apply Kd.R_drewN | apply Kd.R_drew)); exact HO241.out))) (Kd.R_lt (by (with_reducible repeat (first | apply Kd.R_alloc | apply Kd.R_drewN | apply Kd.R_drew)); exact HO244.out))) (Kd.R_lt (by (with_reducible repeat (first | apply Kd.R_alloc | apply Kd.R_drewN | apply Kd.R_drew)); exact HO247.out))) (Kd.R_lt (by (with_reducible repeat (first | apply Kd.R_alloc | apply Kd.R_drewN | apply Kd.R_drew)); exact HO251.out))) (below_size (by repeat (first | (with_reducible first | exact HB.out | apply below_alloc | apply pw_below_drewN | apply below_drew1) | exact HB.out)))); have n5_ := Aside0.mk (below_step (by repeat (first | (with_reducible first | exact HB.out | apply below_alloc | apply pw_below_drewN | apply below_drew1) | exact HB.out)) hb); clear HO241; clear HO244; clear HO247; clear HO251; clear HB; have HO241 := n0_; have HO244 := n1_; have HO247 := n2_; have HO251 := n3_; have HO255 := n4_; have HB := n5_; clear n0_ n1_ n2_ n3_ n4_ n5_; (try clear hb); (try clear hb2); (try clear hk); (try clear hi); (try clear ho0); obtain ⟨Ao54, co54, eo54⟩ := Kd.R_slice HO255.out; subst eo54) | ((with_reducible refine gate_callee (f := 29) rfl ?_); refine goesL_ (some 64) rfl rfl Tryd.func29 (by kernel_rfl) rfl #[.slice Ao48 t242.length co48, .slice Ao54 t253.length co54] rfl (by (try simp only [List.map_toArray, List.map_cons, List.map_nil]); first | done | rfl | (simp only [List.length_drop, List.length_take]; rfl)) ?_; (with_reducible refine (laws_eqInt64S.calls k _ _ t242 _ _ t253 true _ ?side1 ?side2 ?side3 ?side4 A18.out).mono ?_); (case side1 => repeat (first | exact (Kd.R_reads' HO244.out).2.2 | (with_reducible refine Kd.C_alloc ?_ _) | (with_reducible refine Kd.C_drewN ?_ _) | (with_reducible refine Kd.C_drew ?_))); (case side2 => exact (Kd.R_reads' HO244.out).2.1); (case side3 => repeat (first | exact (Kd.R_reads' HO255.out).2.2 | (with_reducible refine Kd.C_alloc ?_ _) | (with_reducible refine Kd.C_drewN ?_ _) | (with_reducible refine Kd.C_drew ?_))); (case side4 => exact (Kd.R_reads' HO255.out).2.1); rintro e w' ⟨rfl, ⟨nd, rfl⟩⟩; refine ⟨_, rfl, ?_⟩) | ((with_reducible refine gate_callee (f := 27) rfl ?_); refine goesL_ (some 68) rfl rfl Tryd.func27 (by kernel_rfl) rfl #[.slice A4 l4.length c4] rfl (by (try simp only [List.map_toArray, List.map_cons, List.map_nil]); first | done | rfl | (simp only [List.length_drop, List.length_take]; rfl)) ?_; (with_reducible refine (laws_toInt64S.calls k _ _ l4 t257 _ ?side1 ?side2 A20.out).mono ?_); (case side1 => repeat (first | exact (Kd.C_below HR4.out (by repeat (first | (with_reducible first | exact HB.out | apply below_alloc | apply pw_below_drewN | apply below_drew1) | exact HB.out))) | (with_reducible refine Kd.C_alloc ?_ _) | (with_reducible refine Kd.C_drewN ?_ _) | (with_reducible refine Kd.C_drew ?_))); (case side2 => exact HC4.out); rintro e w55 ⟨v258, rfl, ho0, hb⟩; refine ⟨_, rfl, ?_⟩; have n0_ := Aside0.mk (Kd.R_elder' (by (with_reducible repeat (first | apply Kd.R_alloc | apply Kd.R_drewN | apply Kd.R_drew)); exact HO241.out) (Kd.R_base ho0) hb); have n1_ := Aside0.mk (Kd.R_elder' (by (with_reducible repeat (first | apply Kd.R_alloc | apply Kd.R_drewN | apply Kd.R_drew)); exact HO244.out) (Kd.R_base ho0) hb); have n2_ := Aside0.mk (Kd.R_elder' (by (with_reducible repeat (first | apply Kd.R_alloc | apply Kd.R_drewN | apply Kd.R_drew)); exact HO247.out) (Kd.R_base ho0) hb); have n3_ := Aside0.mk (Kd.R_elder' (by (with_reducible repeat (first | apply Kd.R_alloc | apply Kd.R_drewN | apply Kd.R_drew)); exact HO251.out) (Kd.R_base ho0) hb); have n4_ := Aside0.mk (Kd.R_lower (Kd.R_new' (Kd.R_new' (Kd.R_new' (Kd.R_new' ho0 (Kd.R_lt (by (with_reducible repeat (first | apply Kd.R_alloc | apply Kd.R_drewN | apply Kd.R_drew)); exact HO241.out))) (Kd.R_lt (by (with_reducible repeat (first | apply Kd.R_alloc | apply Kd.R_drewN | apply Kd.R_drew)); exact HO244.out))) (Kd.R_lt (by (with_reducible repeat (first | apply Kd.R_alloc | apply Kd.R_drewN | apply Kd.R_drew)); exact HO247.out))) (Kd.R_lt (by (with_reducible repeat (first | apply Kd.R_alloc | apply Kd.R_drewN | apply Kd.R_drew)); exact HO251.out))) (below_size (by repeat (first | (with_reducible first | exact HB.out | apply below_alloc | apply pw_below_drewN | apply below_drew1) | exact HB.out)))); have n5_ := Aside0.mk (below_step (by repeat (first | (with_reducible first | exact HB.out | apply below_alloc | apply pw_below_drewN | apply below_drew1) | exact HB.out)) hb); clear HO241; clear HO244; clear HO247; clear HO251; clear HB; have HO241 := n0_; have HO244 := n1_; have HO247 := n2_; have HO251 := n3_; have HO259 := n4_; have HB := n5_; clear n0_ n1_ n2_ n3_ n4_ n5_; (try clear hb); (try clear hb2); (try clear hk); (try clear hi); (try clear ho0); obtain ⟨Ao56, co56, eo56⟩ := Kd.R_slice HO259.out; subst eo56) | ((with_reducible refine gate_callee (f := 29) rfl ?_); refine goesL_ (some 69) rfl rfl Tryd.func29 (by kernel_rfl) rfl #[.slice Ao49 t245.length co49, .slice Ao56 t257.length co56] rfl (by (try simp only [List.map_toArray, List.map_cons, List.map_nil]); first | done | rfl | (simp only [List.length_drop, List.length_take]; rfl)) ?_; (with_reducible refine (laws_eqInt64S.calls k _ _ t245 _ _ t257 true _ ?side1 ?side2 ?side3 ?side4 A21.out).mono ?_); (case side1 => repeat (first | exact (Kd.R_reads' HO247.out).2.2 | (with_reducible refine Kd.C_alloc ?_ _) | (with_reducible refine Kd.C_drewN ?_ _) | (with_reducible refine Kd.C_drew ?_))); (case side2 => exact (Kd.R_reads' HO247.out).2.1); (case side3 => repeat (first | exact (Kd.R_reads' HO259.out).2.2 | (with_reducible refine Kd.C_alloc ?_ _) | (with_reducible refine Kd.C_drewN ?_ _) | (with_reducible refine Kd.C_drew ?_))); (case side4 => exact (Kd.R_reads' HO259.out).2.1); rintro e w' ⟨rfl, ⟨nd, rfl⟩⟩; refine ⟨_, rfl, ?_⟩) | ((with_reducible refine gate_callee (f := 42) rfl ?_); refine goesL_ (some 73) rfl rfl Tryd.func42 (by kernel_rfl) rfl #[.slice Ao48 t242.length co48, .int .i64 1] rfl (by (try simp only [List.map_toArray, List.map_cons, List.map_nil]); first | done | rfl | (simp only [List.length_drop, List.length_take]; rfl)) ?_; (with_reducible refine (laws_markInt64S.calls k (fun k_ => some k_ = (.slice Ao48 t242.length co48 : Value).ownBlock) (.slice Ao48 t242.length co48) t242 1 t261 t262 w _ ?side1 ?side2 A23.out).mono ?_); (case side1 => repeat (first | (with_reducible first | exact HB.out | apply below_alloc | apply pw_below_drewN | apply below_drew1) | exact HB.out)); (case side2 => exact Kd.R_tight rfl HO244.out); rintro e w57 ⟨rfl, hy0, hb, hkp⟩; refine ⟨_, rfl, ?_⟩; have n0_ := Aside0.mk (Kd.R_mono (ok' := fun k_ => some k_ ≠ (.slice Ao48 t242.length co48 : Value).ownBlock ∧ some k_ ≠ (.slice Ao49 t245.length co49 : Value).ownBlock ∧ some k_ ≠ (.slice Ao51 t248.length co51 : Value).ownBlock) (Kd.R_keptB (HO241.out) hkp (fun k_ hk_ hs_ => (hk_.1.1.1.1.2) hs_)) (fun k_ hk_ => ⟨hk_.1.1.1.1.1.2, hk_.1.1.1.1.2, hk_.1.1.1.2⟩)); have n1_ := Aside0.mk (Kd.R_reok rfl hy0 (fun k_ e_ => HO244.out.1 k_ e_)); have n2_ := Aside0.mk (Kd.R_mono (ok' := fun k_ => some k_ ≠ (.slice Ao52 t238.length co52 : Value).ownBlock ∧ some k_ ≠ (.slice Ao48 t242.length co48 : Value).ownBlock ∧ some k_ ≠ (.slice Ao51 t248.length co51 : Value).ownBlock) (Kd.R_keptB (HO247.out) hkp (fun k_ hk_ hs_ => (hk_.1.1.1.2) hs_)) (fun k_ hk_ => ⟨hk_.1.1.1.1.1.2, hk_.1.1.1.1.2, hk_.1.1.1.2⟩)); have n3_ := Aside0.mk (Kd.R_mono (ok' := fun k_ => some k_ ≠ (.slice Ao52 t238.length co52 : Value).ownBlock ∧ some k_ ≠ (.slice Ao48 t242.length co48 : Value).ownBlock ∧ some k_ ≠ (.slice Ao49 t245.length co49 : Value).ownBlock) (Kd.R_keptB (HO251.out) hkp (fun k_ hk_ hs_ => (hk_.1.1.1.2) hs_)) (fun k_ hk_ => ⟨hk_.1.1.1.1.1.2, hk_.1.1.1.1.2, hk_.1.1.1.2⟩)); have n4_ := Aside0.mk (hb); clear HO241; clear HO244; clear HO247; clear HO251; clear HB; have HO241 := n0_; have HO244 := n1_; have HO247 := n2_; have HO251 := n3_; have HB := n4_; clear n0_ n1_ n2_ n3_ n4_; (try clear hb); (try clear hkp); (try clear hy0)) | ((with_reducible refine gate_callee (f := 42) rfl ?_); refine goesL_ (some 76) rfl rfl Tryd.func42 (by kernel_rfl) rfl #[.slice Ao49 t245.length co49, .int .i64 t261] rfl (by (try simp only [List.map_toArray, List.map_cons, List.map_nil]); first | done | rfl | (simp only [List.length_drop, List.length_take]; rfl)) ?_; (with_reducible refine (laws_markInt64S.calls k (fun k_ => some k_ = (.slice Ao49 t245.length co49 : Value).ownBlock) (.slice Ao49 t245.length co49) t245 t261 t263 t264 w _ ?side1 ?side2 A24.out).mono ?_); (case side1 => repeat (first | (with_reducible first | exact HB.out | apply below_alloc | apply pw_below_drewN | apply below_drew1) | exact HB.out)); (case side2 => exact Kd.R_tight rfl HO247.out); rintro e w58 ⟨rfl, hy0, hb, hkp⟩; refine ⟨_, rfl, ?_⟩; have n0_ := Aside0.mk (Kd.R_mono (ok' := fun k_ => some k_ ≠ (.slice Ao49 t245.length co49 : Value).ownBlock ∧ some k_ ≠ (.slice Ao51 t248.length co51 : Value).ownBlock) (Kd.R_keptB (HO241.out) hkp (fun k_ hk_ hs_ => (hk_.2.1) hs_)) (fun k_ hk_ => ⟨hk_.1.2.1, hk_.1.2.2⟩)); have n1_ := Aside0.mk (Kd.R_reok rfl hy0 (fun k_ e_ => HO247.out.1 k_ e_)); have n2_ := Aside0.mk (Kd.R_mono (ok' := fun k_ => some k_ ≠ (.slice Ao52 t238.length co52 : Value).ownBlock ∧ some k_ ≠ (.slice Ao49 t245.length co49 : Value).ownBlock) (Kd.R_keptB (HO251.out) hkp (fun k_ hk_ hs_ => (hk_.2.2) hs_)) (fun k_ hk_ => ⟨hk_.1.1, hk_.1.2.2⟩)); have n3_ := Aside0.mk (hb); clear HO241; clear HO247; clear HO251; clear HB; have HO241 := n0_; have HO247 := n1_; have HO251 := n2_; have HB := n3_; clear n0_ n1_ n2_ n3_; (try clear hb); (try clear hkp); (try clear hy0)) | (go_at_call 29; (with_reducible refine (laws_eqInt64S.calls k _ _ t248 _ _ t238 true _ ?side1 ?side2 ?side3 ?side4 A26.out).mono ?_); (case side1 => repeat (first | exact (Kd.R_reads' HO251.out).2.2 | (with_reducible refine Kd.C_alloc ?_ _) | (with_reducible refine Kd.C_drewN ?_ _) | (with_reducible refine Kd.C_drew ?_))); (case side2 => exact (Kd.R_reads' HO251.out).2.1); (case side3 => repeat (first | exact (Kd.R_reads' HO241.out).2.2 | (with_reducible refine Kd.C_alloc ?_ _) | (with_reducible refine Kd.C_drewN ?_ _) | (with_reducible refine Kd.C_drew ?_))); (case side4 => exact (Kd.R_reads' HO241.out).2.1); rintro e w' ⟨rfl, ⟨nd, rfl⟩⟩) | ((with_reducible refine gate_callee (f := 42) rfl ?_); refine goesL_ (some 92) rfl rfl Tryd.func42 (by kernel_rfl) rfl #[.slice Ao51 t248.length co51, .int .i64 1] rfl (by (try simp only [List.map_toArray, List.map_cons, List.map_nil]); first | done | rfl | (simp only [List.length_drop, List.length_take]; rfl)) ?_; (with_reducible refine (laws_markInt64S.calls k (fun k_ => some k_ = (.slice Ao51 t248.length co51 : Value).ownBlock) (.slice Ao51 t248.length co51) t248 1 t266 t267 w _ ?side1 ?side2 A28.out).mono ?_); (case side1 => repeat (first | (with_reducible first | exact HB.out | apply below_alloc | apply pw_below_drewN | apply below_drew1) | exact HB.out)); (case side2 => exact Kd.R_tight rfl HO251.out); rintro e w59 ⟨rfl, hy0, hb, hkp⟩; refine ⟨_, rfl, ?_⟩; have n0_ := Aside0.mk (Kd.R_mono (ok' := fun k_ => some k_ ≠ (.slice Ao51 t248.length co51 : Value).ownBlock) (Kd.R_keptB (HO241.out) hkp (fun k_ hk_ hs_ => (hk_.2) hs_)) (fun k_ hk_ => hk_.1.2)); have n1_ := Aside0.mk (Kd.R_reok rfl hy0 (fun k_ e_ => HO251.out.1 k_ e_)); have n2_ := Aside0.mk (hb); clear HO241; clear HO251; clear HB; have HO241 := n0_; have HO251 := n1_; have HB := n2_; clear n0_ n1_ n2_; (try clear hb); (try clear hkp); (try clear hy0)) | ((with_reducible refine gate_callee (f := 43) rfl ?_); refine goesL_ (some 95) rfl rfl Tryd.func43 (by kernel_rfl) rfl #[.slice Ao51 t267.length co51, .int .i64 1] rfl (by (try simp only [List.map_toArray, List.map_cons, List.map_nil]); first | done | (rw [show t267.length = t248.length from (Kd.R_reads' HO251.out).1.symm] <;> rfl) | rfl | (simp only [List.length_drop, List.length_take]; rfl)) ?_; (with_reducible refine (laws_heldInt64S.calls k _ _ t267 1 t268 _ ?side1 ?side2 A29.out).mono ?_); (case side1 => repeat (first | exact (Kd.R_reads' HO251.out).2.2 | (with_reducible refine Kd.C_alloc ?_ _) | (with_reducible refine Kd.C_drewN ?_ _) | (with_reducible refine Kd.C_drew ?_))); (case side2 => rw [show t267.length = t248.length from (Kd.R_reads' HO251.out).1.symm]; exact (Kd.R_reads' HO251.out).2.1); rintro e w' ⟨rfl, ⟨nd, rfl⟩⟩; refine ⟨_, rfl, ?_⟩) | ((with_reducible refine gate_callee (f := 27) rfl ?_); refine goesL_ (some 105) rfl rfl Tryd.func27 (by kernel_rfl) rfl #[.slice A2 l2.length c2] rfl (by (try simp only [List.map_toArray, List.map_cons, List.map_nil]); first | done | rfl | (simp only [List.length_drop, List.length_take]; rfl)) ?_; (with_reducible refine (laws_toInt64S.calls k _ _ l2 t269 _ ?side1 ?side2 A32.out).mono ?_); (case side1 => repeat (first | exact (Kd.C_below HR2.out (by repeat (first | (with_reducible first | exact HB.out | apply below_alloc | apply pw_below_drewN | apply below_drew1) | exact HB.out))) | (with_reducible refine Kd.C_alloc ?_ _) | (with_reducible refine Kd.C_drewN ?_ _) | (with_reducible refine Kd.C_drew ?_))); (case side2 => exact HC2.out); rintro e w60 ⟨v270, rfl, ho0, hb⟩; refine ⟨_, rfl, ?_⟩; have n0_ := Aside0.mk (Kd.R_elder' (by (with_reducible repeat (first | apply Kd.R_alloc | apply Kd.R_drewN | apply Kd.R_drew)); exact HO241.out) (Kd.R_base ho0) hb); have n1_ := Aside0.mk (Kd.R_elder' (by (with_reducible repeat (first | apply Kd.R_alloc | apply Kd.R_drewN | apply Kd.R_drew)); exact HO251.out) (Kd.R_base ho0) hb); have n2_ := Aside0.mk (Kd.R_lower (Kd.R_new' (Kd.R_new' ho0 (Kd.R_lt (by (with_reducible repeat (first | apply Kd.R_alloc | apply Kd.R_drewN | apply Kd.R_drew)); exact HO241.out))) (Kd.R_lt (by (with_reducible repeat (first | apply Kd.R_alloc | apply Kd.R_drewN | apply Kd.R_drew)); exact HO251.out))) (below_size (by repeat (first | (with_reducible first | exact HB.out | apply below_alloc | apply pw_below_drewN | apply below_drew1) | exact HB.out)))); have n3_ := Aside0.mk (below_step (by repeat (first | (with_reducible first | exact HB.out | apply below_alloc | apply pw_below_drewN | apply below_drew1) | exact HB.out)) hb); clear HO241; clear HO251; clear HB; have HO241 := n0_; have HO251 := n1_; have HO271 := n2_; have HB := n3_; clear n0_ n1_ n2_ n3_; (try clear hb); (try clear hb2); (try clear hk); (try clear hi); (try clear ho0)) | ((with_reducible refine gate_callee (f := 27) rfl ?_); refine goesL_ (some 108) rfl rfl Tryd.func27 (by kernel_rfl) rfl #[.slice A4 l4.length c4] rfl (by (try simp only [List.map_toArray, List.map_cons, List.map_nil]); first | done | rfl | (simp only [List.length_drop, List.length_take]; rfl)) ?_; (with_reducible refine (laws_toInt64S.calls k _ _ l4 t272 _ ?side1 ?side2 A33.out).mono ?_); (case side1 => repeat (first | exact (Kd.C_below HR4.out HB.out) | (with_reducible refine Kd.C_alloc ?_ _) | (with_reducible refine Kd.C_drewN ?_ _) | (with_reducible refine Kd.C_drew ?_))); (case side2 => exact HC4.out); rintro e w61 ⟨v273, rfl, ho0, hb⟩; refine ⟨_, rfl, ?_⟩; have n0_ := Aside0.mk (Kd.R_elder' (by (with_reducible repeat (first | apply Kd.R_alloc | apply Kd.R_drewN | apply Kd.R_drew)); exact HO241.out) (Kd.R_base ho0) hb); have n1_ := Aside0.mk (Kd.R_elder' (by (with_reducible repeat (first | apply Kd.R_alloc | apply Kd.R_drewN | apply Kd.R_drew)); exact HO251.out) (Kd.R_base ho0) hb); have n2_ := Aside0.mk (Kd.R_elder' (by (with_reducible repeat (first | apply Kd.R_alloc | apply Kd.R_drewN | apply Kd.R_drew)); exact HO271.out) (Kd.R_base ho0) hb); have n3_ := Aside0.mk (Kd.R_lower (Kd.R_new' (Kd.R_new' (Kd.R_new' ho0 (Kd.R_lt (by (with_reducible repeat (first | apply Kd.R_alloc | apply Kd.R_drewN | apply Kd.R_drew)); exact HO241.out))) (Kd.R_lt (by (with_reducible repeat (first | apply Kd.R_alloc | apply Kd.R_drewN | apply Kd.R_drew)); exact HO251.out))) (Kd.R_lt (by (with_reducible repeat (first | apply Kd.R_alloc | apply Kd.R_drewN | apply Kd.R_drew)); exact HO271.out))) (below_size (by repeat (first | (with_reducible first | exact HB.out | apply below_alloc | apply pw_below_drewN | apply below_drew1) | exact HB.out)))); have n4_ := Aside0.mk (below_step (by repeat (first | (with_reducible first | exact HB.out | apply below_alloc | apply pw_below_drewN | apply below_drew1) | exact HB.out)) hb); clear HO241; clear HO251; clear HO271; clear HB; have HO241 := n0_; have HO251 := n1_; have HO271 := n2_; have HO274 := n3_; have HB := n4_; clear n0_ n1_ n2_ n3_ n4_; (try clear hb); (try clear hb2); (try clear hk); (try clear hi); (try clear ho0); obtain ⟨Ao62, co62, eo62⟩ := Kd.R_slice HO271.out; subst eo62; obtain ⟨Ao63, co63, eo63⟩ := Kd.R_slice HO274.out; subst eo63) | ((with_reducible refine gate_callee (f := 41) rfl ?_); refine goesL_ (some 109) rfl rfl Tryd.func41 (by kernel_rfl) rfl #[.int .i64 a0, .int .i64 a1, .slice Ao62 t269.length co62, .int .i64 a3, .slice Ao63 t272.length co63] rfl (by (try simp only [List.map_toArray, List.map_cons, List.map_nil]); first | done | rfl | (simp only [List.length_drop, List.length_take]; rfl)) ?_; (with_reducible refine (impl_Parted.calls k a0 a1 _ _ t269 a3 _ _ t272 t275 t276 _ ?side1 ?side2 ?side3 ?side4 A34.out (tab_at HT.out (by repeat (first | (with_reducible first | exact HB.out | apply below_alloc | apply pw_below_drewN | apply below_drew1 | (refine below_set ?_ (Aside0.out (by assumption)))) | exact HB.out)))).mono ?_); (case side1 => repeat (first | exact (Kd.R_reads' HO271.out).2.2 | (with_reducible refine Kd.C_alloc ?_ _) | (with_reducible refine Kd.C_drewN ?_ _) | (with_reducible refine Kd.C_drew ?_))); (case side2 => exact (Kd.R_reads' HO271.out).2.1); (case side3 => repeat (first | exact (Kd.R_reads' HO274.out).2.2 | (with_reducible refine Kd.C_alloc ?_ _) | (with_reducible refine Kd.C_drewN ?_ _) | (with_reducible refine Kd.C_drew ?_))); (case side4 => exact (Kd.R_reads' HO274.out).2.1); rintro e w64 ⟨v277, rfl, ho0, hb⟩; refine ⟨_, rfl, ?_⟩; have n0_ := Aside0.mk (Kd.R_elder' (by (with_reducible repeat (first | apply Kd.R_alloc | apply Kd.R_drewN | apply Kd.R_drew)); exact HO241.out) (Kd.R_base ho0) hb); have n1_ := Aside0.mk (Kd.R_elder' (by (with_reducible repeat (first | apply Kd.R_alloc | apply Kd.R_drewN | apply Kd.R_drew)); exact HO251.out) (Kd.R_base ho0) hb); have n2_ := Aside0.mk (Kd.R_elder' (by (with_reducible repeat (first | apply Kd.R_alloc | apply Kd.R_drewN | apply Kd.R_drew)); exact HO271.out) (Kd.R_base ho0) hb); have n3_ := Aside0.mk (Kd.R_elder' (by (with_reducible repeat (first | apply Kd.R_alloc | apply Kd.R_drewN | apply Kd.R_drew)); exact HO274.out) (Kd.R_base ho0) hb); have n4_ := Aside0.mk (Kd.R_lower (Kd.R_new' (Kd.R_new' (Kd.R_new' (Kd.R_new' ho0 (Kd.R_lt (by (with_reducible repeat (first | apply Kd.R_alloc | apply Kd.R_drewN | apply Kd.R_drew)); exact HO241.out))) (Kd.R_lt (by (with_reducible repeat (first | apply Kd.R_alloc | apply Kd.R_drewN | apply Kd.R_drew)); exact HO251.out))) (Kd.R_lt (by (with_reducible repeat (first | apply Kd.R_alloc | apply Kd.R_drewN | apply Kd.R_drew)); exact HO271.out))) (Kd.R_lt (by (with_reducible repeat (first | apply Kd.R_alloc | apply Kd.R_drewN | apply Kd.R_drew)); exact HO274.out))) (below_size (by repeat (first | (with_reducible first | exact HB.out | apply below_alloc | apply pw_below_drewN | apply below_drew1) | exact HB.out)))); have n5_ := Aside0.mk (below_step (by repeat (first | (with_reducible first | exact HB.out | apply below_alloc | apply pw_below_drewN | apply below_drew1) | exact HB.out)) hb); clear HO241; clear HO251; clear HO271; clear HO274; clear HB; have HO241 := n0_; have HO251 := n1_; have HO271 := n2_; have HO274 := n3_; have HO278 := n4_; have HB := n5_; clear n0_ n1_ n2_ n3_ n4_ n5_; (try clear hb); (try clear hb2); (try clear hk); (try clear hi); (try clear ho0); obtain ⟨Ao65, co65, eo65⟩ := Kd.R_slice HO278.out; subst eo65) | ((with_reducible refine gate_callee (f := 29) rfl ?_); refine goesL_ (some 114) rfl rfl Tryd.func29 (by kernel_rfl) rfl #[.slice Ao65 t275.length co65, .slice Ao52 t238.length co52] rfl (by (try simp only [List.map_toArray, List.map_cons, List.map_nil]); first | done | rfl | (simp only [List.length_drop, List.length_take]; rfl)) ?_; (with_reducible refine (laws_eqInt64S.calls k _ _ t275 _ _ t238 true _ ?side1 ?side2 ?side3 ?side4 A35.out).mono ?_); (case side1 => repeat (first | exact (Kd.R_reads' HO278.out).2.2 | (with_reducible refine Kd.C_alloc ?_ _) | (with_reducible refine Kd.C_drewN ?_ _) | (with_reducible refine Kd.C_drew ?_))); (case side2 => exact (Kd.R_reads' HO278.out).2.1); (case side3 => repeat (first | exact (Kd.R_reads' HO241.out).2.2 | (with_reducible refine Kd.C_alloc ?_ _) | (with_reducible refine Kd.C_drewN ?_ _) | (with_reducible refine Kd.C_drew ?_))); (case side4 => exact (Kd.R_reads' HO241.out).2.1); rintro e w' ⟨rfl, ⟨nd, rfl⟩⟩; refine ⟨_, rfl, ?_⟩) | ((with_reducible refine gate_callee (f := 43) rfl ?_); refine goesL_ (some 123) rfl rfl Tryd.func43 (by kernel_rfl) rfl #[.slice Ao51 t267.length co51, .int .i64 1] rfl (by (try simp only [List.map_toArray, List.map_cons, List.map_nil]); first | done | (rw [show t267.length = t248.length from (Kd.R_reads' HO251.out).1.symm] <;> rfl) | rfl | (simp only [List.length_drop, List.length_take]; rfl)) ?_; (with_reducible refine (laws_heldInt64S.calls k _ _ t267 1 t280 _ ?side1 ?side2 A38.out).mono ?_); (case side1 => repeat (first | exact (Kd.R_reads' HO251.out).2.2 | (with_reducible refine Kd.C_alloc ?_ _) | (with_reducible refine Kd.C_drewN ?_ _) | (with_reducible refine Kd.C_drew ?_))); (case side2 => rw [show t267.length = t248.length from (Kd.R_reads' HO251.out).1.symm]; exact (Kd.R_reads' HO251.out).2.1); rintro e w' ⟨rfl, ⟨nd, rfl⟩⟩; refine ⟨_, rfl, ?_⟩))
                              go_ret
                              exact ⟨by first | rfl | (simp [errW_none, errW_some] <;> rfl) | (simp [*, errW_none, errW_some] <;> rfl), by repeat (first | (with_reducible first | exact HB.out | apply below_alloc | apply pw_below_drewN | apply below_drew1) | exact HB.out)⟩
                            · rw [if_neg c40] at H
                              exact absurd H (by simp)
                      · replace c36 := Bool.eq_false_iff.mpr c36
                        subst c36
                        have H1 : (none) = some r := by rw [if_neg (show ¬ (false = true) by decide)] at H; exact H
                        clear H
                        have H := H1
                        clear H1
                        exact absurd H (by simp)
                    · rw [if_neg c31] at H
                      exact absurd H (by simp)
                · replace c27 := Bool.eq_false_iff.mpr c27
                  subst c27
                  have H1 : (none) = some r := by rw [if_neg (show ¬ (false = true) by decide)] at H; exact H
                  clear H
                  have H := H1
                  clear H1
                  exact absurd H (by simp)
            · replace c22 := Bool.eq_false_iff.mpr c22
              subst c22
              have H1 : (none) = some r := by rw [if_neg (show ¬ (false = true) by decide)] at H; exact H
              clear H
              have H := H1
              clear H1
              exact absurd H (by simp)
          · replace c19 := Bool.eq_false_iff.mpr c19
            subst c19
            have H1 : (none) = some r := by rw [if_neg (show ¬ (false = true) by decide)] at H; exact H
            clear H
            have H := H1
            clear H1
            exact absurd H (by simp)
      · replace c15 := Bool.eq_false_iff.mpr c15
        subst c15
        have H1 : (none) = some r := by rw [if_neg (show ¬ (false = true) by decide)] at H; exact H
        clear H
        have H := H1
        clear H1
        exact absurd H (by simp)

end Go.Proofs.YtcegobkangpilaaDoor.PFnExactParted
