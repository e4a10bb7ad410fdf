-- Written by a program of this session (wip/tools/pp.py over the kit's print).
import Derived.Test.YtckgkhlgnblblaaPFnExactNewClusterx0
import Derived.Test.YtckgkhlgnblblaaPFnExactNewClusterx4
namespace Go.Proofs.Ytckgkhlgnblblaa.PFnExactNewCluster
open Go.RowKit Go.Proofs.YtckgkhlgnblblaaW.PrintWords Go.Proofs.YtckgkhlgnblblaaW.PrintLast Go.Proofs.YtckgkhlgnblblaaW.PrintMore
attribute [local go_sem] max2_int min2_int max_two min_two max_three min_three max_four min_four
attribute [local go_sem high] str_gtr str_leq str_geq
set_option linter.unusedVariables false
set_option linter.unusedSimpArgs false

/-! ### laws_markReplicaS: function 124 -/
set_option maxHeartbeats 8000000 in
set_option maxRecDepth 100000 in
theorem laws_markInt64S.emp (A0 : Option Addr) (c0 : Nat) (a1 : Int) (w : World) :
  Calls Try.prog 117 #[.slice A0 0 c0, .int .i64 a1] w fun e w' => e = .returned (.int .i64 a1) ∧ Drawn0 w w' := by
 go_enter Try.func117, Try.ntmps117
 go_wp2
 go_loopg [1, 5] 1 (fun kq v1 v5 w' => v1 = .int .i64 a1 ∧ v5 = .int .i64 0 ∧ Drawn0 w w')
 case atStart => exact ⟨rfl, rfl, by repeat (first | exact Drawn0.refl _ | apply Drawn0.step)⟩
 case round =>
  obtain ⟨rfl, rfl, ⟨m1, rfl⟩⟩ := hrel
  go_wp2
  go_ret
  exact ⟨by first | rfl | (simp; done) | (simp [*]; done), by repeat (first | exact Drawn0.refl _ | exact ⟨_, rfl⟩ | apply Drawn0.step)⟩
set_option maxHeartbeats 8000000 in
set_option maxRecDepth 100000 in
theorem laws_markVoteS.emp (A0 : Option Addr) (c0 : Nat) (a1 : Int) (w : World) :
  Calls Try.prog 115 #[.slice A0 0 c0, .int .i64 a1] w fun e w' => e = .returned (.int .i64 a1) ∧ Drawn0 w w' := by
 go_enter Try.func115, Try.ntmps115
 go_wp2
 go_loopg [1, 5] 1 (fun kq v1 v5 w' => v1 = .int .i64 a1 ∧ v5 = .int .i64 0 ∧ Drawn0 w w')
 case atStart => exact ⟨rfl, rfl, by repeat (first | exact Drawn0.refl _ | apply Drawn0.step)⟩
 case round =>
  obtain ⟨rfl, rfl, ⟨m1, rfl⟩⟩ := hrel
  go_wp2
  go_ret
  exact ⟨by first | rfl | (simp; done) | (simp [*]; done), by repeat (first | exact Drawn0.refl _ | exact ⟨_, rfl⟩ | apply Drawn0.step)⟩
set_option maxHeartbeats 8000000 in
set_option maxRecDepth 100000 in
theorem laws_markNewsS.emp (A0 : Option Addr) (c0 : Nat) (a1 : Int) (w : World) :
  Calls Try.prog 116 #[.slice A0 0 c0, .int .i64 a1] w fun e w' => e = .returned (.int .i64 a1) ∧ Drawn0 w w' := by
 go_enter Try.func116, Try.ntmps116
 go_wp2
 go_loopg [1, 5] 1 (fun kq v1 v5 w' => v1 = .int .i64 a1 ∧ v5 = .int .i64 0 ∧ Drawn0 w w')
 case atStart => exact ⟨rfl, rfl, by repeat (first | exact Drawn0.refl _ | apply Drawn0.step)⟩
 case round =>
  obtain ⟨rfl, rfl, ⟨m1, rfl⟩⟩ := hrel
  go_wp2
  go_ret
  exact ⟨by first | rfl | (simp; done) | (simp [*]; done), by repeat (first | exact Drawn0.refl _ | exact ⟨_, rfl⟩ | apply Drawn0.step)⟩
set_option maxHeartbeats 8000000 in
set_option maxRecDepth 100000 in
theorem laws_markBlockS.emp (A0 : Option Addr) (c0 : Nat) (a1 : Int) (w : World) :
  Calls Try.prog 114 #[.slice A0 0 c0, .int .i64 a1] w fun e w' => e = .returned (.int .i64 a1) ∧ Drawn0 w w' := by
 go_enter Try.func114, Try.ntmps114
 go_wp2
 go_loopg [1, 5] 1 (fun kq v1 v5 w' => v1 = .int .i64 a1 ∧ v5 = .int .i64 0 ∧ Drawn0 w w')
 case atStart => exact ⟨rfl, rfl, by repeat (first | exact Drawn0.refl _ | apply Drawn0.step)⟩
 case round =>
  obtain ⟨rfl, rfl, ⟨m1, rfl⟩⟩ := hrel
  go_wp2
  go_ret
  exact ⟨by first | rfl | (simp; done) | (simp [*]; done), by repeat (first | exact Drawn0.refl _ | exact ⟨_, rfl⟩ | apply Drawn0.step)⟩
/-- A replica all of whose rows are empty. -/
abbrev emP (x : S68) : Prop := x.f6.f2.length = 0 ∧ x.f6.f3.length = 0 ∧ x.f7.length = 0 ∧ x.f8.length = 0 ∧ x.f9.length = 0 ∧ x.f10.length = 0
def cn : Nat → Int → Int
 | 0, c => c
 | n + 1, c => wrap64 (cn n c + 1)
def upR (x : S68) (c : Int) : S68 := ⟨c, cn 1 c, cn 2 c, cn 3 c, cn 4 c, cn 5 c, ⟨cn 6 c, cn 7 c, x.f6.f2, x.f6.f3⟩, x.f7, x.f8, x.f9, x.f10⟩
def laws_markReplicaS.l0 : Nat → List S68 → Int → Int → Option (Int × List S68)
 | 0, _, _, _ => none
 | k + 1, l, c, i => if i < (l.length : Int) then (if 0 ≤ i then (if emP (rd_T68 l i) then laws_markReplicaS.l0 k (l.set i.toNat (upR (rd_T68 l i) c)) (cn 8 c) (wrap64 (i + 1)) else none) else none) else some (c, l)
def laws_markReplicaS.f (k : Nat) (l : List S68) (c : Int) : Option (Int × List S68) := laws_markReplicaS.l0 k l c 0
theorem laws_markReplicaS.mono_l : ∀ k a0 a1 a2, LeO (laws_markReplicaS.l0 k a0 a1 a2) (laws_markReplicaS.l0 (k + 1) a0 a1 a2)
 | 0, _, _, _ => fun r h => by simp [laws_markReplicaS.l0] at h
 | k + 1, a0, a1, a2 => by
  unfold laws_markReplicaS.l0
  exact LeO.ite (LeO.ite (LeO.ite (laws_markReplicaS.mono_l k _ _ _) (LeO.none _)) (LeO.none _)) (LeO.refl _)
theorem laws_markReplicaS.mono : ∀ a0 a1 k, LeO (laws_markReplicaS.f k a0 a1) (laws_markReplicaS.f (k + 1) a0 a1) := fun a0 a1 k => laws_markReplicaS.mono_l k a0 a1 0
theorem set_rd {y : List S68} {i : Int} (h0 : 0 ≤ i) (h1 : i < (y.length : Int)) : y.set i.toNat (rd_T68 y i) = y := by
 have hl : i.toNat < y.length := by omega
 unfold rd_T68
 rw [List.getD_eq_getElem?_getD, List.getElem?_eq_getElem hl]
 exact List.set_getElem_self hl
theorem rd_set {y : List S68} {i : Int} (x : S68) (h0 : 0 ≤ i) (h1 : i < (y.length : Int)) : rd_T68 (y.set i.toNat x) i = x := by
 have hl : i.toNat < y.length := by omega
 unfold rd_T68
 rw [List.getD_eq_getElem?_getD, List.getElem?_set_self hl]
 rfl
theorem st_int {a : Act} {o : Oper} {p v : Tmp} {ad : Addr} {x y : Int} {W : World} (ho : o.op = .store 2 (.tmp p) (.tmp v)) (hp : a.eval (.tmp p) = .pointer (some ad)) (hv : a.eval (.tmp v) = .int .i64 x) (hc : W.cell? ad = some (.int .i64 y)) (hf : W.frozen? ad = false) :
  (execOp a.eval o).run Try.prog W = .ok .skip (W.setCell ad (.int .i64 x)) := by
 unfold execOp
 rw [ho]
 simp only [hp, hv]
 go_simp
theorem mr_st0 {i : Int} {W : World} {base go n cap : Nat} {ok : Nat → Prop} {y : List S68} {e0 e1 e2 e3 e4 e5 e6 e7 : Int} {l8 l9 : List Int} {l10 : List S42} {l11 : List S176} {l12 : List S179} {l13 : List Int} (h : Kd.R k68 68 W base ok (.slice (some ⟨go, 0, none⟩) n cap) (y.set i.toNat (⟨e0, e1, e2, e3, e4, e5, ⟨e6, e7, l8, l9⟩, l10, l11, l12, l13⟩ : S68))) (h0 : 0 ≤ i) (h1 : i < (n : Int)) (v : Int) :
  W.cell? ⟨go, i.toNat * 14, none⟩ = some (.int .i64 e0) ∧ W.frozen? ⟨go, i.toNat * 14, none⟩ = false ∧ Kd.R k68 68 (W.setCell ⟨go, i.toNat * 14, none⟩ (.int .i64 v)) base ok (.slice (some ⟨go, 0, none⟩) n cap) (y.set i.toNat (⟨v, e1, e2, e3, e4, e5, ⟨e6, e7, l8, l9⟩, l10, l11, l12, l13⟩ : S68)) ∧ W.grownBy (W.setCell ⟨go, i.toNat * 14, none⟩ (.int .i64 v)) (some go) := by
 have hn : n = (y.set i.toNat (⟨e0, e1, e2, e3, e4, e5, ⟨e6, e7, l8, l9⟩, l10, l11, l12, l13⟩ : S68)).length := (Kd.R_reads' h).1
 rw [List.length_set] at hn
 obtain ⟨ce, hcl, hM, hcc, hfr⟩ := Kd.R_elem h z68 i h0 h1
 have hx : (y.set i.toNat (⟨e0, e1, e2, e3, e4, e5, ⟨e6, e7, l8, l9⟩, l10, l11, l12, l13⟩ : S68)).getD i.toNat z68 = (⟨e0, e1, e2, e3, e4, e5, ⟨e6, e7, l8, l9⟩, l10, l11, l12, l13⟩ : S68) := rd_set _ h0 (by omega)
 rw [hx] at hM
 obtain ⟨v8, v9, v10, v11, v12, v13, rfl, g8, g9, g10, g11, g12, g13⟩ := k68_openM hM
 have HP := Kd.R_seg h i h0 h1 (seg := [.int .i64 v]) (j := 0) hcl hcc (show 0 + 1 ≤ 14 from by decide) (x' := (⟨v, e1, e2, e3, e4, e5, ⟨e6, e7, l8, l9⟩, l10, l11, l12, l13⟩ : S68)) (k68_mkM _ _ _ (⟨v, e1, e2, e3, e4, e5, ⟨e6, e7, l8, l9⟩, l10, l11, l12, l13⟩ : S68) g8 g9 g10 g11 g12 g13) (fun _ hk => hk)
 rw [List.set_set] at HP
 exact ⟨hcc 0 _ rfl, hfr 0, HP.1, HP.2⟩
theorem mr_st1 {i : Int} {W : World} {base go n cap : Nat} {ok : Nat → Prop} {y : List S68} {e0 e1 e2 e3 e4 e5 e6 e7 : Int} {l8 l9 : List Int} {l10 : List S42} {l11 : List S176} {l12 : List S179} {l13 : List Int} (h : Kd.R k68 68 W base ok (.slice (some ⟨go, 0, none⟩) n cap) (y.set i.toNat (⟨e0, e1, e2, e3, e4, e5, ⟨e6, e7, l8, l9⟩, l10, l11, l12, l13⟩ : S68))) (h0 : 0 ≤ i) (h1 : i < (n : Int)) (v : Int) :
  W.cell? ⟨go, i.toNat * 14 + 1, none⟩ = some (.int .i64 e1) ∧ W.frozen? ⟨go, i.toNat * 14 + 1, none⟩ = false ∧ Kd.R k68 68 (W.setCell ⟨go, i.toNat * 14 + 1, none⟩ (.int .i64 v)) base ok (.slice (some ⟨go, 0, none⟩) n cap) (y.set i.toNat (⟨e0, v, e2, e3, e4, e5, ⟨e6, e7, l8, l9⟩, l10, l11, l12, l13⟩ : S68)) ∧ W.grownBy (W.setCell ⟨go, i.toNat * 14 + 1, none⟩ (.int .i64 v)) (some go) := by
 have hn : n = (y.set i.toNat (⟨e0, e1, e2, e3, e4, e5, ⟨e6, e7, l8, l9⟩, l10, l11, l12, l13⟩ : S68)).length := (Kd.R_reads' h).1
 rw [List.length_set] at hn
 obtain ⟨ce, hcl, hM, hcc, hfr⟩ := Kd.R_elem h z68 i h0 h1
 have hx : (y.set i.toNat (⟨e0, e1, e2, e3, e4, e5, ⟨e6, e7, l8, l9⟩, l10, l11, l12, l13⟩ : S68)).getD i.toNat z68 = (⟨e0, e1, e2, e3, e4, e5, ⟨e6, e7, l8, l9⟩, l10, l11, l12, l13⟩ : S68) := rd_set _ h0 (by omega)
 rw [hx] at hM
 obtain ⟨v8, v9, v10, v11, v12, v13, rfl, g8, g9, g10, g11, g12, g13⟩ := k68_openM hM
 have HP := Kd.R_seg h i h0 h1 (seg := [.int .i64 v]) (j := 1) hcl hcc (show 1 + 1 ≤ 14 from by decide) (x' := (⟨e0, v, e2, e3, e4, e5, ⟨e6, e7, l8, l9⟩, l10, l11, l12, l13⟩ : S68)) (k68_mkM _ _ _ (⟨e0, v, e2, e3, e4, e5, ⟨e6, e7, l8, l9⟩, l10, l11, l12, l13⟩ : S68) g8 g9 g10 g11 g12 g13) (fun _ hk => hk)
 rw [List.set_set] at HP
 exact ⟨hcc 1 _ rfl, hfr 1, HP.1, HP.2⟩
theorem mr_st2 {i : Int} {W : World} {base go n cap : Nat} {ok : Nat → Prop} {y : List S68} {e0 e1 e2 e3 e4 e5 e6 e7 : Int} {l8 l9 : List Int} {l10 : List S42} {l11 : List S176} {l12 : List S179} {l13 : List Int} (h : Kd.R k68 68 W base ok (.slice (some ⟨go, 0, none⟩) n cap) (y.set i.toNat (⟨e0, e1, e2, e3, e4, e5, ⟨e6, e7, l8, l9⟩, l10, l11, l12, l13⟩ : S68))) (h0 : 0 ≤ i) (h1 : i < (n : Int)) (v : Int) :
  W.cell? ⟨go, i.toNat * 14 + 2, none⟩ = some (.int .i64 e2) ∧ W.frozen? ⟨go, i.toNat * 14 + 2, none⟩ = false ∧ Kd.R k68 68 (W.setCell ⟨go, i.toNat * 14 + 2, none⟩ (.int .i64 v)) base ok (.slice (some ⟨go, 0, none⟩) n cap) (y.set i.toNat (⟨e0, e1, v, e3, e4, e5, ⟨e6, e7, l8, l9⟩, l10, l11, l12, l13⟩ : S68)) ∧ W.grownBy (W.setCell ⟨go, i.toNat * 14 + 2, none⟩ (.int .i64 v)) (some go) := by
 have hn : n = (y.set i.toNat (⟨e0, e1, e2, e3, e4, e5, ⟨e6, e7, l8, l9⟩, l10, l11, l12, l13⟩ : S68)).length := (Kd.R_reads' h).1
 rw [List.length_set] at hn
 obtain ⟨ce, hcl, hM, hcc, hfr⟩ := Kd.R_elem h z68 i h0 h1
 have hx : (y.set i.toNat (⟨e0, e1, e2, e3, e4, e5, ⟨e6, e7, l8, l9⟩, l10, l11, l12, l13⟩ : S68)).getD i.toNat z68 = (⟨e0, e1, e2, e3, e4, e5, ⟨e6, e7, l8, l9⟩, l10, l11, l12, l13⟩ : S68) := rd_set _ h0 (by omega)
 rw [hx] at hM
 obtain ⟨v8, v9, v10, v11, v12, v13, rfl, g8, g9, g10, g11, g12, g13⟩ := k68_openM hM
 have HP := Kd.R_seg h i h0 h1 (seg := [.int .i64 v]) (j := 2) hcl hcc (show 2 + 1 ≤ 14 from by decide) (x' := (⟨e0, e1, v, e3, e4, e5, ⟨e6, e7, l8, l9⟩, l10, l11, l12, l13⟩ : S68)) (k68_mkM _ _ _ (⟨e0, e1, v, e3, e4, e5, ⟨e6, e7, l8, l9⟩, l10, l11, l12, l13⟩ : S68) g8 g9 g10 g11 g12 g13) (fun _ hk => hk)
 rw [List.set_set] at HP
 exact ⟨hcc 2 _ rfl, hfr 2, HP.1, HP.2⟩
theorem mr_st3 {i : Int} {W : World} {base go n cap : Nat} {ok : Nat → Prop} {y : List S68} {e0 e1 e2 e3 e4 e5 e6 e7 : Int} {l8 l9 : List Int} {l10 : List S42} {l11 : List S176} {l12 : List S179} {l13 : List Int} (h : Kd.R k68 68 W base ok (.slice (some ⟨go, 0, none⟩) n cap) (y.set i.toNat (⟨e0, e1, e2, e3, e4, e5, ⟨e6, e7, l8, l9⟩, l10, l11, l12, l13⟩ : S68))) (h0 : 0 ≤ i) (h1 : i < (n : Int)) (v : Int) :
  W.cell? ⟨go, i.toNat * 14 + 3, none⟩ = some (.int .i64 e3) ∧ W.frozen? ⟨go, i.toNat * 14 + 3, none⟩ = false ∧ Kd.R k68 68 (W.setCell ⟨go, i.toNat * 14 + 3, none⟩ (.int .i64 v)) base ok (.slice (some ⟨go, 0, none⟩) n cap) (y.set i.toNat (⟨e0, e1, e2, v, e4, e5, ⟨e6, e7, l8, l9⟩, l10, l11, l12, l13⟩ : S68)) ∧ W.grownBy (W.setCell ⟨go, i.toNat * 14 + 3, none⟩ (.int .i64 v)) (some go) := by
 have hn : n = (y.set i.toNat (⟨e0, e1, e2, e3, e4, e5, ⟨e6, e7, l8, l9⟩, l10, l11, l12, l13⟩ : S68)).length := (Kd.R_reads' h).1
 rw [List.length_set] at hn
 obtain ⟨ce, hcl, hM, hcc, hfr⟩ := Kd.R_elem h z68 i h0 h1
 have hx : (y.set i.toNat (⟨e0, e1, e2, e3, e4, e5, ⟨e6, e7, l8, l9⟩, l10, l11, l12, l13⟩ : S68)).getD i.toNat z68 = (⟨e0, e1, e2, e3, e4, e5, ⟨e6, e7, l8, l9⟩, l10, l11, l12, l13⟩ : S68) := rd_set _ h0 (by omega)
 rw [hx] at hM
 obtain ⟨v8, v9, v10, v11, v12, v13, rfl, g8, g9, g10, g11, g12, g13⟩ := k68_openM hM
 have HP := Kd.R_seg h i h0 h1 (seg := [.int .i64 v]) (j := 3) hcl hcc (show 3 + 1 ≤ 14 from by decide) (x' := (⟨e0, e1, e2, v, e4, e5, ⟨e6, e7, l8, l9⟩, l10, l11, l12, l13⟩ : S68)) (k68_mkM _ _ _ (⟨e0, e1, e2, v, e4, e5, ⟨e6, e7, l8, l9⟩, l10, l11, l12, l13⟩ : S68) g8 g9 g10 g11 g12 g13) (fun _ hk => hk)
 rw [List.set_set] at HP
 exact ⟨hcc 3 _ rfl, hfr 3, HP.1, HP.2⟩
theorem mr_st4 {i : Int} {W : World} {base go n cap : Nat} {ok : Nat → Prop} {y : List S68} {e0 e1 e2 e3 e4 e5 e6 e7 : Int} {l8 l9 : List Int} {l10 : List S42} {l11 : List S176} {l12 : List S179} {l13 : List Int} (h : Kd.R k68 68 W base ok (.slice (some ⟨go, 0, none⟩) n cap) (y.set i.toNat (⟨e0, e1, e2, e3, e4, e5, ⟨e6, e7, l8, l9⟩, l10, l11, l12, l13⟩ : S68))) (h0 : 0 ≤ i) (h1 : i < (n : Int)) (v : Int) :
  W.cell? ⟨go, i.toNat * 14 + 4, none⟩ = some (.int .i64 e4) ∧ W.frozen? ⟨go, i.toNat * 14 + 4, none⟩ = false ∧ Kd.R k68 68 (W.setCell ⟨go, i.toNat * 14 + 4, none⟩ (.int .i64 v)) base ok (.slice (some ⟨go, 0, none⟩) n cap) (y.set i.toNat (⟨e0, e1, e2, e3, v, e5, ⟨e6, e7, l8, l9⟩, l10, l11, l12, l13⟩ : S68)) ∧ W.grownBy (W.setCell ⟨go, i.toNat * 14 + 4, none⟩ (.int .i64 v)) (some go) := by
 have hn : n = (y.set i.toNat (⟨e0, e1, e2, e3, e4, e5, ⟨e6, e7, l8, l9⟩, l10, l11, l12, l13⟩ : S68)).length := (Kd.R_reads' h).1
 rw [List.length_set] at hn
 obtain ⟨ce, hcl, hM, hcc, hfr⟩ := Kd.R_elem h z68 i h0 h1
 have hx : (y.set i.toNat (⟨e0, e1, e2, e3, e4, e5, ⟨e6, e7, l8, l9⟩, l10, l11, l12, l13⟩ : S68)).getD i.toNat z68 = (⟨e0, e1, e2, e3, e4, e5, ⟨e6, e7, l8, l9⟩, l10, l11, l12, l13⟩ : S68) := rd_set _ h0 (by omega)
 rw [hx] at hM
 obtain ⟨v8, v9, v10, v11, v12, v13, rfl, g8, g9, g10, g11, g12, g13⟩ := k68_openM hM
 have HP := Kd.R_seg h i h0 h1 (seg := [.int .i64 v]) (j := 4) hcl hcc (show 4 + 1 ≤ 14 from by decide) (x' := (⟨e0, e1, e2, e3, v, e5, ⟨e6, e7, l8, l9⟩, l10, l11, l12, l13⟩ : S68)) (k68_mkM _ _ _ (⟨e0, e1, e2, e3, v, e5, ⟨e6, e7, l8, l9⟩, l10, l11, l12, l13⟩ : S68) g8 g9 g10 g11 g12 g13) (fun _ hk => hk)
 rw [List.set_set] at HP
 exact ⟨hcc 4 _ rfl, hfr 4, HP.1, HP.2⟩
theorem mr_st5 {i : Int} {W : World} {base go n cap : Nat} {ok : Nat → Prop} {y : List S68} {e0 e1 e2 e3 e4 e5 e6 e7 : Int} {l8 l9 : List Int} {l10 : List S42} {l11 : List S176} {l12 : List S179} {l13 : List Int} (h : Kd.R k68 68 W base ok (.slice (some ⟨go, 0, none⟩) n cap) (y.set i.toNat (⟨e0, e1, e2, e3, e4, e5, ⟨e6, e7, l8, l9⟩, l10, l11, l12, l13⟩ : S68))) (h0 : 0 ≤ i) (h1 : i < (n : Int)) (v : Int) :
  W.cell? ⟨go, i.toNat * 14 + 5, none⟩ = some (.int .i64 e5) ∧ W.frozen? ⟨go, i.toNat * 14 + 5, none⟩ = false ∧ Kd.R k68 68 (W.setCell ⟨go, i.toNat * 14 + 5, none⟩ (.int .i64 v)) base ok (.slice (some ⟨go, 0, none⟩) n cap) (y.set i.toNat (⟨e0, e1, e2, e3, e4, v, ⟨e6, e7, l8, l9⟩, l10, l11, l12, l13⟩ : S68)) ∧ W.grownBy (W.setCell ⟨go, i.toNat * 14 + 5, none⟩ (.int .i64 v)) (some go) := by
 have hn : n = (y.set i.toNat (⟨e0, e1, e2, e3, e4, e5, ⟨e6, e7, l8, l9⟩, l10, l11, l12, l13⟩ : S68)).length := (Kd.R_reads' h).1
 rw [List.length_set] at hn
 obtain ⟨ce, hcl, hM, hcc, hfr⟩ := Kd.R_elem h z68 i h0 h1
 have hx : (y.set i.toNat (⟨e0, e1, e2, e3, e4, e5, ⟨e6, e7, l8, l9⟩, l10, l11, l12, l13⟩ : S68)).getD i.toNat z68 = (⟨e0, e1, e2, e3, e4, e5, ⟨e6, e7, l8, l9⟩, l10, l11, l12, l13⟩ : S68) := rd_set _ h0 (by omega)
 rw [hx] at hM
 obtain ⟨v8, v9, v10, v11, v12, v13, rfl, g8, g9, g10, g11, g12, g13⟩ := k68_openM hM
 have HP := Kd.R_seg h i h0 h1 (seg := [.int .i64 v]) (j := 5) hcl hcc (show 5 + 1 ≤ 14 from by decide) (x' := (⟨e0, e1, e2, e3, e4, v, ⟨e6, e7, l8, l9⟩, l10, l11, l12, l13⟩ : S68)) (k68_mkM _ _ _ (⟨e0, e1, e2, e3, e4, v, ⟨e6, e7, l8, l9⟩, l10, l11, l12, l13⟩ : S68) g8 g9 g10 g11 g12 g13) (fun _ hk => hk)
 rw [List.set_set] at HP
 exact ⟨hcc 5 _ rfl, hfr 5, HP.1, HP.2⟩
theorem mr_st6 {i : Int} {W : World} {base go n cap : Nat} {ok : Nat → Prop} {y : List S68} {e0 e1 e2 e3 e4 e5 e6 e7 : Int} {l8 l9 : List Int} {l10 : List S42} {l11 : List S176} {l12 : List S179} {l13 : List Int} (h : Kd.R k68 68 W base ok (.slice (some ⟨go, 0, none⟩) n cap) (y.set i.toNat (⟨e0, e1, e2, e3, e4, e5, ⟨e6, e7, l8, l9⟩, l10, l11, l12, l13⟩ : S68))) (h0 : 0 ≤ i) (h1 : i < (n : Int)) (v : Int) :
  W.cell? ⟨go, i.toNat * 14 + 6, none⟩ = some (.int .i64 e6) ∧ W.frozen? ⟨go, i.toNat * 14 + 6, none⟩ = false ∧ Kd.R k68 68 (W.setCell ⟨go, i.toNat * 14 + 6, none⟩ (.int .i64 v)) base ok (.slice (some ⟨go, 0, none⟩) n cap) (y.set i.toNat (⟨e0, e1, e2, e3, e4, e5, ⟨v, e7, l8, l9⟩, l10, l11, l12, l13⟩ : S68)) ∧ W.grownBy (W.setCell ⟨go, i.toNat * 14 + 6, none⟩ (.int .i64 v)) (some go) := by
 have hn : n = (y.set i.toNat (⟨e0, e1, e2, e3, e4, e5, ⟨e6, e7, l8, l9⟩, l10, l11, l12, l13⟩ : S68)).length := (Kd.R_reads' h).1
 rw [List.length_set] at hn
 obtain ⟨ce, hcl, hM, hcc, hfr⟩ := Kd.R_elem h z68 i h0 h1
 have hx : (y.set i.toNat (⟨e0, e1, e2, e3, e4, e5, ⟨e6, e7, l8, l9⟩, l10, l11, l12, l13⟩ : S68)).getD i.toNat z68 = (⟨e0, e1, e2, e3, e4, e5, ⟨e6, e7, l8, l9⟩, l10, l11, l12, l13⟩ : S68) := rd_set _ h0 (by omega)
 rw [hx] at hM
 obtain ⟨v8, v9, v10, v11, v12, v13, rfl, g8, g9, g10, g11, g12, g13⟩ := k68_openM hM
 have HP := Kd.R_seg h i h0 h1 (seg := [.int .i64 v]) (j := 6) hcl hcc (show 6 + 1 ≤ 14 from by decide) (x' := (⟨e0, e1, e2, e3, e4, e5, ⟨v, e7, l8, l9⟩, l10, l11, l12, l13⟩ : S68)) (k68_mkM _ _ _ (⟨e0, e1, e2, e3, e4, e5, ⟨v, e7, l8, l9⟩, l10, l11, l12, l13⟩ : S68) g8 g9 g10 g11 g12 g13) (fun _ hk => hk)
 rw [List.set_set] at HP
 exact ⟨hcc 6 _ rfl, hfr 6, HP.1, HP.2⟩
theorem mr_st7 {i : Int} {W : World} {base go n cap : Nat} {ok : Nat → Prop} {y : List S68} {e0 e1 e2 e3 e4 e5 e6 e7 : Int} {l8 l9 : List Int} {l10 : List S42} {l11 : List S176} {l12 : List S179} {l13 : List Int} (h : Kd.R k68 68 W base ok (.slice (some ⟨go, 0, none⟩) n cap) (y.set i.toNat (⟨e0, e1, e2, e3, e4, e5, ⟨e6, e7, l8, l9⟩, l10, l11, l12, l13⟩ : S68))) (h0 : 0 ≤ i) (h1 : i < (n : Int)) (v : Int) :
  W.cell? ⟨go, i.toNat * 14 + 7, none⟩ = some (.int .i64 e7) ∧ W.frozen? ⟨go, i.toNat * 14 + 7, none⟩ = false ∧ Kd.R k68 68 (W.setCell ⟨go, i.toNat * 14 + 7, none⟩ (.int .i64 v)) base ok (.slice (some ⟨go, 0, none⟩) n cap) (y.set i.toNat (⟨e0, e1, e2, e3, e4, e5, ⟨e6, v, l8, l9⟩, l10, l11, l12, l13⟩ : S68)) ∧ W.grownBy (W.setCell ⟨go, i.toNat * 14 + 7, none⟩ (.int .i64 v)) (some go) := by
 have hn : n = (y.set i.toNat (⟨e0, e1, e2, e3, e4, e5, ⟨e6, e7, l8, l9⟩, l10, l11, l12, l13⟩ : S68)).length := (Kd.R_reads' h).1
 rw [List.length_set] at hn
 obtain ⟨ce, hcl, hM, hcc, hfr⟩ := Kd.R_elem h z68 i h0 h1
 have hx : (y.set i.toNat (⟨e0, e1, e2, e3, e4, e5, ⟨e6, e7, l8, l9⟩, l10, l11, l12, l13⟩ : S68)).getD i.toNat z68 = (⟨e0, e1, e2, e3, e4, e5, ⟨e6, e7, l8, l9⟩, l10, l11, l12, l13⟩ : S68) := rd_set _ h0 (by omega)
 rw [hx] at hM
 obtain ⟨v8, v9, v10, v11, v12, v13, rfl, g8, g9, g10, g11, g12, g13⟩ := k68_openM hM
 have HP := Kd.R_seg h i h0 h1 (seg := [.int .i64 v]) (j := 7) hcl hcc (show 7 + 1 ≤ 14 from by decide) (x' := (⟨e0, e1, e2, e3, e4, e5, ⟨e6, v, l8, l9⟩, l10, l11, l12, l13⟩ : S68)) (k68_mkM _ _ _ (⟨e0, e1, e2, e3, e4, e5, ⟨e6, v, l8, l9⟩, l10, l11, l12, l13⟩ : S68) g8 g9 g10 g11 g12 g13) (fun _ hk => hk)
 rw [List.set_set] at HP
 exact ⟨hcc 7 _ rfl, hfr 7, HP.1, HP.2⟩
theorem mr_ld {i : Int} {W : World} {base go n cap : Nat} {ok : Nat → Prop} {y : List S68} {x : S68} (h : Kd.R k68 68 W base ok (.slice (some ⟨go, 0, none⟩) n cap) (y.set i.toNat x)) (h0 : 0 ≤ i) (h1 : i < (n : Int)) (he : emP x) :
  ∃ A8 c8 A9 c9 A10 c10 A11 c11 A12 c12 A13 c13, W.cell? ⟨go, i.toNat * 14 + 8, none⟩ = some (.slice A8 0 c8) ∧ W.cell? ⟨go, i.toNat * 14 + 9, none⟩ = some (.slice A9 0 c9) ∧ W.cell? ⟨go, i.toNat * 14 + 10, none⟩ = some (.slice A10 0 c10) ∧ W.cell? ⟨go, i.toNat * 14 + 11, none⟩ = some (.slice A11 0 c11) ∧ W.cell? ⟨go, i.toNat * 14 + 12, none⟩ = some (.slice A12 0 c12) ∧ W.cell? ⟨go, i.toNat * 14 + 13, none⟩ = some (.slice A13 0 c13) := by
 have hn : n = (y.set i.toNat x).length := (Kd.R_reads' h).1
 rw [List.length_set] at hn
 obtain ⟨ce, hcl, hM, hcc, hfr⟩ := Kd.R_elem h z68 i h0 h1
 have hx : (y.set i.toNat x).getD i.toNat z68 = x := rd_set x h0 (by omega)
 rw [hx] at hM
 obtain ⟨v8, v9, v10, v11, v12, v13, rfl, g8, g9, g10, g11, g12, g13⟩ := k68_openM hM
 obtain ⟨e8, e9, e10, e11, e12, e13⟩ := he
 obtain ⟨A8, c8, rfl⟩ := Kd.R_slice g8
 obtain ⟨A9, c9, rfl⟩ := Kd.R_slice g9
 obtain ⟨A10, c10, rfl⟩ := Kd.R_slice g10
 obtain ⟨A11, c11, rfl⟩ := Kd.R_slice g11
 obtain ⟨A12, c12, rfl⟩ := Kd.R_slice g12
 obtain ⟨A13, c13, rfl⟩ := Kd.R_slice g13
 rw [e8, e9, e10, e11, e12, e13] at hcc
 exact ⟨A8, c8, A9, c9, A10, c10, A11, c11, A12, c12, A13, c13, hcc 8 _ rfl, hcc 9 _ rfl, hcc 10 _ rfl, hcc 11 _ rfl, hcc 12 _ rfl, hcc 13 _ rfl⟩
set_option maxHeartbeats 16000000 in
set_option maxRecDepth 100000 in
theorem laws_markReplicaS.calls (k : Nat) (u : Value) (l0 : List S68) (a1 : Int) (r1 : Int) (r2 : List S68) (ok : Nat → Prop) (w0 w : World) (hB : Below w0.heap.size w0 w) (ho : Kd.R k68 68 w w0.heap.size ok u l0) (h : laws_markReplicaS.f k l0 a1 = some (r1, r2)) :
  Calls Try.prog 124 #[u, .int .i64 a1] w fun e w' => e = .returned (.int .i64 r1) ∧ Kd.R k68 68 w' w0.heap.size ok u r2 ∧ Below w0.heap.size w0 w' ∧ Kept w w' (fun k_ => u.ownBlock = some k_) := by
 have eg1 : ∀ args w, (callFunc 117 args).run Try.prog w = .ok (.enter 117 args) w := enters_ Try.func117 (by kernel_rfl) rfl
 have eg2 : ∀ args w, (callFunc 115 args).run Try.prog w = .ok (.enter 115 args) w := enters_ Try.func115 (by kernel_rfl) rfl
 have eg3 : ∀ args w, (callFunc 116 args).run Try.prog w = .ok (.enter 116 args) w := enters_ Try.func116 (by kernel_rfl) rfl
 have eg4 : ∀ args w, (callFunc 114 args).run Try.prog w = .ok (.enter 114 args) w := enters_ Try.func114 (by kernel_rfl) rfl
 have hu68 := Try.underlying68
 have hu40 := Try.underlying40
 have HO := Aside0.mk ho
 have HB := Aside0.mk hB
 have HK := Aside0.mk (Kept.refl w (fun k_ => u.ownBlock = some k_))
 have H' := Aside0.mk (show laws_markReplicaS.l0 k l0 a1 0 = some (r1, r2) from h)
 clear h ho hB
 obtain ⟨Au, cu, rfl⟩ := Kd.R_slice HO.out
 go_enter Try.func124, Try.ntmps124
 go_wp2
 go_loopg [1, 5] k (fun kq v1 v5 w' => ∃ (x0 : List S68) (c i : Int), v1 = .int .i64 c ∧ v5 = .int .i64 i ∧ Aside0 (laws_markReplicaS.l0 kq x0 c i = some (r1, r2)) ∧ Aside0 (kq ≤ k) ∧ Aside0 (Kd.R k68 68 w' w0.heap.size ok (.slice Au l0.length cu) x0) ∧ Aside0 (Kept w w' (fun k_ => (Value.slice Au l0.length cu).ownBlock = some k_)) ∧ Aside0 (Below w0.heap.size w0 w'))
 case atStart => exact ⟨l0, a1, 0, rfl, rfl, H', ⟨Nat.le_refl _⟩, HO, HK, HB⟩
 case round =>
  clear H' HO HK HB
  obtain ⟨x0, c, i, rfl, rfl, HA, HKQ, HO, HK, HB⟩ := hrel
  have hlen : l0.length = x0.length := (Kd.R_reads' HO.out).1
  cases gk with
  | zero => exact absurd HA.out (by simp [laws_markReplicaS.l0])
  | succ kq =>
   have hh := HA.out
   clear HA
   simp only [laws_markReplicaS.l0] at hh
   by_cases ci : i < (x0.length : Int)
   ·rw [if_pos ci] at hh
    have cl : i < (l0.length : Int) := by rw [hlen]; exact ci
    have cib : decide (i < (l0.length : Int)) = true := decide_eq_true cl
    by_cases cz : 0 ≤ i
    ·rw [if_pos cz] at hh
     have czb : decide (0 ≤ i) = true := decide_eq_true cz
     by_cases ce : emP (rd_T68 x0 i)
     ·rw [if_pos ce] at hh
      have HA := Aside0.mk hh
      have HE := Aside0.mk ce
      clear hh ce
      obtain ⟨go, co, eo, hgb, hgl, cells, HG⟩ := Kd.R_form HO.out (by omega)
      injection eo with ea eb ec
      subst ea
      subst ec
      clear eb hlen
      have HGB := Aside0.mk hgb
      clear hgb hgl HG cells
      obtain ⟨c0, hc0⟩ : ∃ c_, c_ = c := ⟨_, rfl⟩
      rw [← hc0]
      obtain ⟨c1, hc1⟩ : ∃ c_, wrap64 (c0 + 1) = c_ := ⟨_, rfl⟩
      have hw1 : IntKind.i64.wrap (c0 + 1) = c1 := (i64_w _).trans hc1
      obtain ⟨c2, hc2⟩ : ∃ c_, wrap64 (c1 + 1) = c_ := ⟨_, rfl⟩
      have hw2 : IntKind.i64.wrap (c1 + 1) = c2 := (i64_w _).trans hc2
      obtain ⟨c3, hc3⟩ : ∃ c_, wrap64 (c2 + 1) = c_ := ⟨_, rfl⟩
      have hw3 : IntKind.i64.wrap (c2 + 1) = c3 := (i64_w _).trans hc3
      obtain ⟨c4, hc4⟩ : ∃ c_, wrap64 (c3 + 1) = c_ := ⟨_, rfl⟩
      have hw4 : IntKind.i64.wrap (c3 + 1) = c4 := (i64_w _).trans hc4
      obtain ⟨c5, hc5⟩ : ∃ c_, wrap64 (c4 + 1) = c_ := ⟨_, rfl⟩
      have hw5 : IntKind.i64.wrap (c4 + 1) = c5 := (i64_w _).trans hc5
      obtain ⟨c6, hc6⟩ : ∃ c_, wrap64 (c5 + 1) = c_ := ⟨_, rfl⟩
      have hw6 : IntKind.i64.wrap (c5 + 1) = c6 := (i64_w _).trans hc6
      obtain ⟨c7, hc7⟩ : ∃ c_, wrap64 (c6 + 1) = c_ := ⟨_, rfl⟩
      have hw7 : IntKind.i64.wrap (c6 + 1) = c7 := (i64_w _).trans hc7
      obtain ⟨c8, hc8⟩ : ∃ c_, wrap64 (c7 + 1) = c_ := ⟨_, rfl⟩
      have hw8 : IntKind.i64.wrap (c7 + 1) = c8 := (i64_w _).trans hc8
      have HUP : Aside0 (∀ x : S68, upR x c = ⟨c0, c1, c2, c3, c4, c5, ⟨c6, c7, x.f6.f2, x.f6.f3⟩, x.f7, x.f8, x.f9, x.f10⟩) := ⟨fun x => by subst hc0; subst hc1; subst hc2; subst hc3; subst hc4; subst hc5; subst hc6; subst hc7; rfl⟩
      have HC8 : Aside0 (cn 8 c = c8) := ⟨by subst hc0; subst hc1; subst hc2; subst hc3; subst hc4; subst hc5; subst hc6; subst hc7; subst hc8; rfl⟩
      clear hc1 hc2 hc3 hc4 hc5 hc6 hc7 hc8 hc0
      have n1_ : Aside0 (Kd.R k68 68 wr w0.heap.size ok (.slice (some ⟨go, 0, none⟩) l0.length cu) (x0.set i.toNat (rd_T68 x0 i))) := ⟨by rw [set_rd cz ci]; exact HO.out⟩
      clear HO
      have HO := n1_
      clear n1_
      have P0 := Aside0.mk cz
      have P1 : Aside0 (i < ((l0.length : Nat) : Int)) := ⟨cl⟩
      generalize rd_T68 x0 i = x at HO HA HE
      obtain ⟨e0, e1, e2, e3, e4, e5, ⟨e6, e7, l8, l9⟩, l10, l11, l12, l13⟩ := x
      have q0 := eq_true cz
      have q1 := eq_true cl
      clear cz ci cl
      obtain ⟨w_0, hw0⟩ : ∃ w_, w_ = wr := ⟨_, rfl⟩
      rw [← hw0] at HO HK HB ⊢
      clear hw0
      have hq_ := mr_st0 HO.out P0.out P1.out c0
      have hx0 := hq_.1
      have hf0 := hq_.2.1
      have HQ := Aside0.mk hq_.2.2
      clear hq_
      go_wp2_with (first | ((with_reducible refine gate_store (t := 2) (p := 16) rfl ?_); refine store_event (t := 2) (p := 16) (v := ?vo_0) (w1 := (w_0.setCell ⟨go, i.toNat * 14, none⟩ (.int .i64 c0))) ?hg ?ho ?hn ?hr ?_; (case ho => rfl); (case hg => rfl); (case hn => rfl); (case hr => exact st_int rfl rfl rfl hx0 hf0); intro w_1 hw; have hg_ := HQ.out.2; have hp_ := HQ.out.1; rw [← hw] at hg_ hp_; have n1_ := Aside0.mk (show Below w0.heap.size w0 w_1 from by rw [hw]; exact below_set HB.out HGB.out); have n2_ := Aside0.mk (Kept.of_grown hg_ HK.out (fun k_ e_ => Or.inl e_)); clear HO HB HK HQ hx0 hf0; have HO := Aside0.mk hp_; have HB := n1_; have HK := n2_; clear n1_ n2_ hg_ hp_ hw; have hq_ := mr_st1 HO.out P0.out P1.out c1; have hx1 := hq_.1; have hf1 := hq_.2.1; have HQ := Aside0.mk hq_.2.2; clear hq_) | ((with_reducible refine gate_store (t := 2) (p := 23) rfl ?_); refine store_event (t := 2) (p := 23) (v := ?vo_1) (w1 := (w_1.setCell ⟨go, i.toNat * 14 + 1, none⟩ (.int .i64 c1))) ?hg ?ho ?hn ?hr ?_; (case ho => rfl); (case hg => rfl); (case hn => rfl); (case hr => exact st_int rfl rfl rfl hx1 hf1); intro w_2 hw; have hg_ := HQ.out.2; have hp_ := HQ.out.1; rw [← hw] at hg_ hp_; have n1_ := Aside0.mk (show Below w0.heap.size w0 w_2 from by rw [hw]; exact below_set HB.out HGB.out); have n2_ := Aside0.mk (Kept.of_grown hg_ HK.out (fun k_ e_ => Or.inl e_)); clear HO HB HK HQ hx1 hf1; have HO := Aside0.mk hp_; have HB := n1_; have HK := n2_; clear n1_ n2_ hg_ hp_ hw; have hq_ := mr_st2 HO.out P0.out P1.out c2; have hx2 := hq_.1; have hf2 := hq_.2.1; have HQ := Aside0.mk hq_.2.2; clear hq_) | ((with_reducible refine gate_store (t := 2) (p := 30) rfl ?_); refine store_event (t := 2) (p := 30) (v := ?vo_2) (w1 := (w_2.setCell ⟨go, i.toNat * 14 + 2, none⟩ (.int .i64 c2))) ?hg ?ho ?hn ?hr ?_; (case ho => rfl); (case hg => rfl); (case hn => rfl); (case hr => exact st_int rfl rfl rfl hx2 hf2); intro w_3 hw; have hg_ := HQ.out.2; have hp_ := HQ.out.1; rw [← hw] at hg_ hp_; have n1_ := Aside0.mk (show Below w0.heap.size w0 w_3 from by rw [hw]; exact below_set HB.out HGB.out); have n2_ := Aside0.mk (Kept.of_grown hg_ HK.out (fun k_ e_ => Or.inl e_)); clear HO HB HK HQ hx2 hf2; have HO := Aside0.mk hp_; have HB := n1_; have HK := n2_; clear n1_ n2_ hg_ hp_ hw; have hq_ := mr_st3 HO.out P0.out P1.out c3; have hx3 := hq_.1; have hf3 := hq_.2.1; have HQ := Aside0.mk hq_.2.2; clear hq_) | ((with_reducible refine gate_store (t := 2) (p := 37) rfl ?_); refine store_event (t := 2) (p := 37) (v := ?vo_3) (w1 := (w_3.setCell ⟨go, i.toNat * 14 + 3, none⟩ (.int .i64 c3))) ?hg ?ho ?hn ?hr ?_; (case ho => rfl); (case hg => rfl); (case hn => rfl); (case hr => exact st_int rfl rfl rfl hx3 hf3); intro w_4 hw; have hg_ := HQ.out.2; have hp_ := HQ.out.1; rw [← hw] at hg_ hp_; have n1_ := Aside0.mk (show Below w0.heap.size w0 w_4 from by rw [hw]; exact below_set HB.out HGB.out); have n2_ := Aside0.mk (Kept.of_grown hg_ HK.out (fun k_ e_ => Or.inl e_)); clear HO HB HK HQ hx3 hf3; have HO := Aside0.mk hp_; have HB := n1_; have HK := n2_; clear n1_ n2_ hg_ hp_ hw; have hq_ := mr_st4 HO.out P0.out P1.out c4; have hx4 := hq_.1; have hf4 := hq_.2.1; have HQ := Aside0.mk hq_.2.2; clear hq_) | ((with_reducible refine gate_store (t := 2) (p := 44) rfl ?_); refine store_event (t := 2) (p := 44) (v := ?vo_4) (w1 := (w_4.setCell ⟨go, i.toNat * 14 + 4, none⟩ (.int .i64 c4))) ?hg ?ho ?hn ?hr ?_; (case ho => rfl); (case hg => rfl); (case hn => rfl); (case hr => exact st_int rfl rfl rfl hx4 hf4); intro w_5 hw; have hg_ := HQ.out.2; have hp_ := HQ.out.1; rw [← hw] at hg_ hp_; have n1_ := Aside0.mk (show Below w0.heap.size w0 w_5 from by rw [hw]; exact below_set HB.out HGB.out); have n2_ := Aside0.mk (Kept.of_grown hg_ HK.out (fun k_ e_ => Or.inl e_)); clear HO HB HK HQ hx4 hf4; have HO := Aside0.mk hp_; have HB := n1_; have HK := n2_; clear n1_ n2_ hg_ hp_ hw; have hq_ := mr_st5 HO.out P0.out P1.out c5; have hx5 := hq_.1; have hf5 := hq_.2.1; have HQ := Aside0.mk hq_.2.2; clear hq_) | ((with_reducible refine gate_store (t := 2) (p := 51) rfl ?_); refine store_event (t := 2) (p := 51) (v := ?vo_5) (w1 := (w_5.setCell ⟨go, i.toNat * 14 + 5, none⟩ (.int .i64 c5))) ?hg ?ho ?hn ?hr ?_; (case ho => rfl); (case hg => rfl); (case hn => rfl); (case hr => exact st_int rfl rfl rfl hx5 hf5); intro w_6 hw; have hg_ := HQ.out.2; have hp_ := HQ.out.1; rw [← hw] at hg_ hp_; have n1_ := Aside0.mk (show Below w0.heap.size w0 w_6 from by rw [hw]; exact below_set HB.out HGB.out); have n2_ := Aside0.mk (Kept.of_grown hg_ HK.out (fun k_ e_ => Or.inl e_)); clear HO HB HK HQ hx5 hf5; have HO := Aside0.mk hp_; have HB := n1_; have HK := n2_; clear n1_ n2_ hg_ hp_ hw; have hq_ := mr_st6 HO.out P0.out P1.out c6; have hx6 := hq_.1; have hf6 := hq_.2.1; have HQ := Aside0.mk hq_.2.2; clear hq_) | ((with_reducible refine gate_store (t := 2) (p := 59) rfl ?_); refine store_event (t := 2) (p := 59) (v := ?vo_6) (w1 := (w_6.setCell ⟨go, i.toNat * 14 + 6, none⟩ (.int .i64 c6))) ?hg ?ho ?hn ?hr ?_; (case ho => rfl); (case hg => rfl); (case hn => rfl); (case hr => exact st_int rfl rfl rfl hx6 hf6); intro w_7 hw; have hg_ := HQ.out.2; have hp_ := HQ.out.1; rw [← hw] at hg_ hp_; have n1_ := Aside0.mk (show Below w0.heap.size w0 w_7 from by rw [hw]; exact below_set HB.out HGB.out); have n2_ := Aside0.mk (Kept.of_grown hg_ HK.out (fun k_ e_ => Or.inl e_)); clear HO HB HK HQ hx6 hf6; have HO := Aside0.mk hp_; have HB := n1_; have HK := n2_; clear n1_ n2_ hg_ hp_ hw; have hq_ := mr_st7 HO.out P0.out P1.out c7; have hx7 := hq_.1; have hf7 := hq_.2.1; have HQ := Aside0.mk hq_.2.2; clear hq_) | ((with_reducible refine gate_store (t := 2) (p := 67) rfl ?_); refine store_event (t := 2) (p := 67) (v := ?vo_7) (w1 := (w_7.setCell ⟨go, i.toNat * 14 + 7, none⟩ (.int .i64 c7))) ?hg ?ho ?hn ?hr ?_; (case ho => rfl); (case hg => rfl); (case hn => rfl); (case hr => exact st_int rfl rfl rfl hx7 hf7); intro w_8 hw; have hg_ := HQ.out.2; have hp_ := HQ.out.1; rw [← hw] at hg_ hp_; have n1_ := Aside0.mk (show Below w0.heap.size w0 w_8 from by rw [hw]; exact below_set HB.out HGB.out); have n2_ := Aside0.mk (Kept.of_grown hg_ HK.out (fun k_ e_ => Or.inl e_)); clear HO HB HK HQ hx7 hf7; have HO := Aside0.mk hp_; have HB := n1_; have HK := n2_; clear n1_ n2_ hg_ hp_ hw; obtain ⟨A8, k8, A9, k9, A10, k10, A11, k11, A12, k12, A13, k13, hl8, hl9, hl10, hl11, hl12, hl13⟩ := mr_ld HO.out P0.out P1.out HE.out) | fail)
      refine (laws_markInt64S.emp A8 k8 _ _).mono ?_
      rintro e w' ⟨rfl, ⟨m8_, rfl⟩⟩
      go_wp2_with fail
      refine (laws_markInt64S.emp A9 k9 _ _).mono ?_
      rintro e w' ⟨rfl, ⟨m9_, rfl⟩⟩
      go_wp2_with fail
      refine (laws_markBlockS.emp A10 k10 _ _).mono ?_
      rintro e w' ⟨rfl, ⟨m10_, rfl⟩⟩
      go_wp2_with fail
      refine (laws_markVoteS.emp A11 k11 _ _).mono ?_
      rintro e w' ⟨rfl, ⟨m11_, rfl⟩⟩
      go_wp2_with fail
      refine (laws_markNewsS.emp A12 k12 _ _).mono ?_
      rintro e w' ⟨rfl, ⟨m12_, rfl⟩⟩
      go_wp2_with fail
      refine (laws_markInt64S.emp A13 k13 _ _).mono ?_
      rintro e w' ⟨rfl, ⟨m13_, rfl⟩⟩
      go_wp2
      go_roundg kq
      case measure => have := HKQ.out; omega
      case rel => exact ⟨x0.set i.toNat (upR _ c), cn 8 c, wrap64 (i + 1), (by first | (rw [HC8.out]; done) | (rw [HC8.out]; rfl) | (simp [HC8.out]; done)), (by first | rfl | (simp; done)), HA, ⟨by have := HKQ.out; omega⟩, ⟨by (with_reducible repeat (first | apply Kd.R_alloc | apply Kd.R_drewN | apply Kd.R_drew)); rw [HUP.out]; exact HO.out⟩, ⟨by repeat (first | (with_reducible first | exact HK.out | apply Kept.drewN | apply Kept.drew) | exact HK.out)⟩, ⟨by repeat (first | (with_reducible first | exact HB.out | apply pw_below_drewN | apply below_drew1) | exact HB.out)⟩⟩
     ·rw [if_neg ce] at hh
      cases hh
    ·rw [if_neg cz] at hh
     cases hh
   ·rw [if_neg ci] at hh
    have cib : decide (i < (l0.length : Int)) = false := decide_eq_false (by rw [hlen]; exact ci)
    clear ci hlen
    obtain ⟨rfl, rfl⟩ : c = r1 ∧ x0 = r2 := by simpa using hh
    clear hh
    go_wp2
    go_ret
    exact ⟨rfl, HO.out, HB.out, HK.out⟩

/-! ### laws_markMessageS: function 125 -/
def laws_markMessageS.f (l0 : List (S182)) (a1 : Int) : Option (Int) := if l0.length = 0 then some a1 else none
set_option maxHeartbeats 8000000 in
set_option maxRecDepth 100000 in
theorem laws_markMessageS.calls (A0 : Option Addr) (c0 : Nat) (l0 : List (S182)) (a1 : Int) (r : Int) (w : World) (hr0 : Kd.C k182 w A0 l0.length l0) (hc0 : l0.length ≤ c0) (h : laws_markMessageS.f l0 a1 = some r) :
  Calls Try.prog 125 #[.slice A0 l0.length c0, .int .i64 a1] w fun e w' => e = .returned (.int .i64 r) ∧ Drawn0 w w' := by
 unfold laws_markMessageS.f at h
 by_cases hl : l0.length = 0
 ·rw [if_pos hl] at h
  obtain rfl := Option.some.inj h
  obtain rfl := List.length_eq_zero_iff.1 hl
  clear hr0 hc0 h hl
  go_enter Try.func125, Try.ntmps125
  go_wp2
  go_loopg [1, 5] 1 (fun kq v1 v5 w' => v1 = .int .i64 a1 ∧ v5 = .int .i64 0 ∧ Drawn0 w w')
  case atStart => exact ⟨rfl, rfl, by repeat (first | exact Drawn0.refl _ | apply Drawn0.step)⟩
  case round =>
   obtain ⟨rfl, rfl, ⟨m1, rfl⟩⟩ := hrel
   go_wp2
   go_ret
   exact ⟨by first | rfl | (simp; done) | (simp [*]; done), by repeat (first | exact Drawn0.refl _ | exact ⟨_, rfl⟩ | apply Drawn0.step)⟩
 ·rw [if_neg hl] at h
  cases h

/-! ### laws_markCluster: function 52 -/
theorem nilC {α : Type} (d : Kd α) (w : World) (A : Option Addr) : Kd.C d w A ([] : List α).length [] := ⟨rfl, by simp, fun h => absurd h (by simp)⟩
def laws_markCluster.f (k : Nat) (l0 : List S68) (l1 : List S182) (c : Int) : Option (Int × List S68) := if l1.length = 0 then laws_markReplicaS.f k l0 c else none
theorem laws_markCluster.mono : ∀ a0 a1 a2 k, LeO (laws_markCluster.f k a0 a1 a2) (laws_markCluster.f (k + 1) a0 a1 a2) := by
 intro a0 a1 a2 k
 unfold laws_markCluster.f
 exact LeO.ite (laws_markReplicaS.mono _ _ _) (LeO.none _)
set_option maxHeartbeats 16000000 in
set_option maxRecDepth 100000 in
theorem laws_markCluster.calls (k : Nat) (u : Value) (l0 : List S68) (Am : Option Addr) (cm : Nat) (l1 : List S182) (a1 : Int) (r1 : Int) (r2 : List S68) (ok : Nat → Prop) (w0 w : World) (hB : Below w0.heap.size w0 w) (ho : Kd.R k68 68 w w0.heap.size ok u l0) (h : laws_markCluster.f k l0 l1 a1 = some (r1, r2)) :
  Calls Try.prog 52 #[.agg #[u, .slice Am l1.length cm], .int .i64 a1] w fun e w' => e = .returned (.int .i64 r1) ∧ Kd.R k68 68 w' w0.heap.size ok u r2 ∧ Below w0.heap.size w0 w' ∧ Kept w w' (fun k_ => u.ownBlock = some k_) := by
 have eg1 : ∀ args w, (callFunc 124 args).run Try.prog w = .ok (.enter 124 args) w := enters_ Try.func124 (by kernel_rfl) rfl
 have eg2 : ∀ args w, (callFunc 125 args).run Try.prog w = .ok (.enter 125 args) w := enters_ Try.func125 (by kernel_rfl) rfl
 have hu77 := Try.underlying77
 unfold laws_markCluster.f at h
 by_cases hl : l1.length = 0
 ·rw [if_pos hl] at h
  rw [hl]
  clear hl
  have H := Aside0.mk h
  have HO := Aside0.mk ho
  have HB := Aside0.mk hB
  have HL := Aside0.mk (Kd.R_lt ho)
  clear h ho hB
  obtain ⟨Au, cu, rfl⟩ := Kd.R_slice HO.out
  have BK : Aside0 ((w.alloc (.cells #[.slice Au l0.length cu, .slice Am 0 cm] 77)).heap[w.heap.size]? = some (.cells #[.slice Au l0.length cu, .slice Am 0 cm] 77 (0, 0))) := ⟨heap_alloc_new w _⟩
  have hx0 : (w.alloc (.cells #[.slice Au l0.length cu, .slice Am 0 cm] 77)).cell? ⟨w.heap.size, 0, none⟩ = some (.slice Au l0.length cu) := (blk_cell BK.out 0).trans rfl
  go_enter Try.func52, Try.ntmps52
  go_wp2_with fail
  refine (laws_markReplicaS.calls k _ l0 a1 r1 r2 ok w0 _ (below_alloc HB.out _) (Kd.R_alloc HO.out _) H.out).mono ?_
  rintro e w1 ⟨rfl, hR, hB, hk⟩
  have HR := Aside0.mk hR
  have HB1 := Aside0.mk hB
  have HK := Aside0.mk ((Kept.alloc (Kept.refl w (fun k_ => (Value.slice Au l0.length cu).ownBlock = some k_)) (.cells #[.slice Au l0.length cu, .slice Am 0 cm] 77)).then_ hk (fun _ h_ => Or.inl h_))
  have BK1 := blk_kept BK.out hk (fun e_ => absurd (HL.out _ e_) (Nat.lt_irrefl _))
  have hx1 : w1.cell? ⟨w.heap.size, 1, none⟩ = some (.slice Am 0 cm) := (blk_cell BK1 1).trans rfl
  clear hR hB hk BK1 BK hx0 HL HB HO
  go_wp2_with fail
  refine (laws_markMessageS.calls Am cm [] r1 r1 _ (nilC _ _ _) (Nat.zero_le _) rfl).mono ?_
  rintro e w2 ⟨rfl, ⟨m_, rfl⟩⟩
  go_wp2
  go_ret
  exact ⟨rfl, by (with_reducible repeat (first | apply Kd.R_drewN | apply Kd.R_drew)); exact HR.out, by repeat (first | (with_reducible first | exact HB1.out | apply pw_below_drewN | apply below_drew1) | exact HB1.out), by repeat (first | (with_reducible first | exact HK.out | apply Kept.drewN | apply Kept.drew) | exact HK.out)⟩
 ·rw [if_neg hl] at h
  cases h

/-! ### laws_heldStringS: function 20 -/
def laws_heldStringS.l0 : Nat → List ByteArray → Int → Int → Option (Int)
 | 0, _, _, _ => none
 | k + 1, x0, x1, x5 => if x5 < (x0.length : Int) then (if 0 ≤ x5 then ((laws_markText.f k x1).bind fun t232 => (if (rdOf ByteArray.empty x0 x5).toList = t232.toList then (laws_heldStringS.l0 k x0 (wrap64 (x1 + 1)) (wrap64 (x5 + 1))) else (none))) else (none)) else (some x1)
def laws_heldStringS.f (k : Nat) (l0 : List ByteArray) (a1 : Int) : Option (Int) := laws_heldStringS.l0 k l0 a1 0
theorem laws_heldStringS.mono_l : ∀ k, (∀ y0 y1 y2, LeO (laws_heldStringS.l0 k y0 y1 y2) (laws_heldStringS.l0 (k + 1) y0 y1 y2))
 | 0 => fun _ _ _ r h => by simp [laws_heldStringS.l0] at h
 | k + 1 => by
  have ih0 := laws_heldStringS.mono_l k
  ·intro y0 y1 y2
   unfold laws_heldStringS.l0
   repeat' first
   | (with_reducible exact ih0 _ _ _)
   | (with_reducible exact laws_markText.mono _ _)
   | (with_reducible exact LeO.refl _)
   | (with_reducible exact LeO.none _)
   | (with_reducible refine LeO.ite ?_ ?_)
   | (with_reducible refine LeO.bind ?_ (fun _ => ?_))
   | exact ih0 _ _ _
   | exact laws_markText.mono _ _
   | exact LeO.none _
   | refine LeO.ite ?_ ?_
   | refine LeO.bind ?_ (fun _ => ?_)
theorem laws_heldStringS.mono : ∀ a0 a1 k, LeO (laws_heldStringS.f k a0 a1) (laws_heldStringS.f (k + 1) a0 a1) := by
 intro a0 a1 k
 have ih0 := laws_heldStringS.mono_l k
 unfold laws_heldStringS.f
 repeat' first
   | (with_reducible exact ih0 _ _ _)
   | (with_reducible exact laws_markText.mono _ _)
   | (with_reducible exact LeO.refl _)
   | (with_reducible exact LeO.none _)
   | (with_reducible refine LeO.ite ?_ ?_)
   | (with_reducible refine LeO.bind ?_ (fun _ => ?_))
   | exact ih0 _ _ _
   | exact laws_markText.mono _ _
   | exact LeO.none _
   | refine LeO.ite ?_ ?_
   | refine LeO.bind ?_ (fun _ => ?_)
set_option maxHeartbeats 8000000 in
set_option maxRecDepth 100000 in
theorem laws_heldStringS.calls (k : Nat) (A0 : Option Addr) (c0 : Nat) (l0 : List ByteArray) (a1 : Int) (r : Int) (w : World) (hr0 : Kd.C Kd.string w A0 l0.length l0) (hc0 : l0.length ≤ c0) (h : laws_heldStringS.f k l0 a1 = some r) :
  Calls Try.prog 20 #[.slice A0 l0.length c0, .int .i64 a1] w fun e w' => e = .returned (.int .i64 r) ∧ Below w.heap.size w w' := by
 have HR0 := Aside0.mk hr0
 have HC0 := Aside0.mk hc0
 clear hr0 hc0
 have HB := Aside0.mk (Below.refl w.heap.size w)
 have H : (laws_heldStringS.l0 k l0 a1 0) = some r := h
 clear h
 have H' := Aside0.mk H
 clear H
 go_enter Try.func20, Try.ntmps20
 go_wp2
 go_loopg [1, 5] k (fun kq v1 v5 w' => ∃ (x1_1 : Int) (x5_1 : Int), v1 = .int .i64 x1_1 ∧ v5 = .int .i64 x5_1 ∧ Aside0 (laws_heldStringS.l0 kq l0 x1_1 x5_1 = some r) ∧ Aside0 (kq ≤ k) ∧ Aside0 (Below w.heap.size w w'))
 case atStart => exact ⟨(a1), (0), (by first | rfl | (simp; done) | (simp [*]; done)), (by first | rfl | (simp; done) | (simp [*]; done)), H', ⟨Nat.le_refl _⟩, ⟨by repeat (first | (with_reducible first | exact HB.out | apply below_alloc | apply pw_below_drewN | apply below_drew1) | exact HB.out)⟩⟩
 case round =>
  clear H'
  try clear c2
  try clear p2
  obtain ⟨x1_1, x5_1, rfl, rfl, HA, HK1, HB⟩ := hrel
  cases gk with
  | zero => exact absurd HA.out (by simp [laws_heldStringS.l0])
  | succ k1 =>
   have H := HA.out
   clear HA
   simp only [laws_heldStringS.l0] at H
   by_cases c3 : x5_1 < (l0.length : Int)
   ·rw [if_pos c3] at H
    have c3b0 : decide (x5_1 < (l0.length : Int)) = true := decide_eq_true c3
    clear c3
    by_cases c4 : 0 ≤ x5_1
    ·rw [if_pos c4] at H
     have c4b0 : decide (0 ≤ x5_1) = true := decide_eq_true c4
     clear c4
     replace H := Option.bind_eq_some_iff.mp H
     obtain ⟨t232, A50, H⟩ := H
     replace H : (if (rdOf ByteArray.empty l0 x5_1).toList = t232.toList then (laws_heldStringS.l0 k1 l0 (wrap64 (x1_1 + 1)) (wrap64 (x5_1 + 1))) else (none)) = some r := H
     have A5 := Aside0.mk A50
     clear A50
     by_cases c6 : (rdOf ByteArray.empty l0 x5_1).toList = t232.toList
     ·rw [if_pos c6] at H
      have c6b0 : ((rdOf ByteArray.empty l0 x5_1).toList == t232.toList) = true := beq_iff_eq.mpr c6
      have c6b1 : ((rdOf ByteArray.empty l0 x5_1).toList != t232.toList) = false := bne_eq_false_iff_eq.mpr c6
      clear c6
      have H' := Aside0.mk H
      clear H
      try go_wp2
      have n0_ := Aside0.mk (below_drew1 HB.out)
      clear HB
      have HB := n0_
      clear n0_
      have p231 : 0 ≤ (x5_1 : Int) := of_decide_eq_true (by first | (with_reducible assumption) | assumption)
      have q231 : x5_1 < (l0.length : Int) := of_decide_eq_true (by first | (with_reducible assumption) | assumption)
      obtain ⟨ad231, e231, hx231_0⟩ := Kd.at_string HR0.out x5_1 p231 q231
      have hw231_0 := hx231_0
      cases e231
      replace hx231_0 := (HB.out.cell (World.block_lt_of_cell? w _ hx231_0)).trans hx231_0
      replace p231 := eq_true p231
      replace q231 := eq_true q231
      refine start_ (n := 7) (S := fun w' => w'.cell? (ad231.add (x5_1).toNat) = some (.string (rdOf ByteArray.empty l0 x5_1))) (ds := []) #[false, false, false, false, false, false, false] (by kernel_rfl) rfl rfl (((HB.out.cell (World.block_lt_of_cell? w _ hw231_0)).trans hw231_0)) (fun hHeld => ?_)
      generalize wr.drew = w7 at HB hx231_0 hHeld ⊢
      refine pure_ (i := 0) (N := some 12) (v := ?_) (a' := ?_) #[true, false, false, false, false, false, false] rfl rfl (by kernel_rfl) (fun _ _ _ h => h) (Or.inl ⟨by rfl, ?_⟩) ?_ ?_
      rotate_left
      ·intro w'
       go_simp
       with_reducible rfl
      rotate_left
      ·simp only [sp_]
       rfl
      refine pure_ (i := 1) (N := some 13) (v := ?_) (a' := ?_) #[true, true, false, false, false, false, false] rfl rfl (by kernel_rfl) (fun _ _ _ h => h) (Or.inl ⟨by rfl, ?_⟩) ?_ ?_
      rotate_left
      ·intro w'
       go_simp
       with_reducible rfl
      rotate_left
      ·simp only [sp_]
       rfl
      refine pure_ (i := 2) (N := some 14) (v := ?_) (a' := ?_) #[true, true, true, false, false, false, false] rfl rfl (by kernel_rfl) (fun _ _ _ h => h) (Or.inl ⟨by rfl, ?_⟩) ?_ ?_
      rotate_left
      ·intro w'
       go_simp
       with_reducible rfl
      rotate_left
      ·simp only [sp_]
       rfl
      refine pure_ (i := 4) (N := some 16) (v := ?_) (a' := ?_) #[true, true, true, false, true, false, false] rfl rfl (by kernel_rfl) (fun _ _ _ h => h) (Or.inl ⟨by rfl, ?_⟩) ?_ ?_
      rotate_left
      ·intro w'
       go_simp
       with_reducible rfl
      rotate_left
      ·simp only [sp_]
       rfl
      refine take_ (i := 3) (N := some 15) (v := ?_) (a' := ?_) #[true, true, true, true, true, false, false] rfl rfl (by kernel_rfl) (fun _ _ _ h => h) (Or.inl ⟨by rfl, ?_⟩) hHeld ?_ ?_
      rotate_left
      ·intro w' s0
       go_simp
       with_reducible rfl
      rotate_left
      ·simp only [sp_]
       rfl
      refine one_ (i := 5) (N := some 17) #[true, true, true, true, true, true, false] rfl rfl (by kernel_rfl) (by decide) (fun K hK => ?_)
      refine goes_ Try.func71 (by kernel_rfl) rfl #[.int .i64 x1_1] (by rfl) rfl rfl (by (try simp only [List.map_toArray, List.map_cons, List.map_nil]); first | done | rfl | (simp only [List.length_drop, List.length_take]; rfl)) ?_
      with_reducible refine (laws_markText.calls k1 x1_1 t232 _ A5.out).mono ?_
      rintro e w8 ⟨rfl, hb⟩
      refine ⟨_, rfl, ?_⟩
      have n0_ := Aside0.mk (below_step (by repeat (first | (with_reducible first | exact HB.out | apply below_alloc | apply pw_below_drewN | apply below_drew1) | exact HB.out)) hb)
      clear HB
      have HB := n0_
      clear n0_
      (try clear hb)
      (try clear hb2)
      (try clear hk)
      (try clear hi)
      refine hK.out _ _ (((HB.out.cell (World.block_lt_of_cell? w _ hw231_0)).trans hw231_0)) (fun hHeld => ?_)
      clear hK K
      refine norm_ (a' := ?_) ?_ ?_
      rotate_left
      ·show Act.put _ (some 17) _ = _
       simp only [sp_]
       rfl
      refine pure_ (i := 6) (N := some 18) (v := ?_) (a' := ?_) #[true, true, true, true, true, true, true] rfl rfl (by kernel_rfl) (fun _ _ _ h => h) (Or.inl ⟨by rfl, ?_⟩) ?_ ?_
      rotate_left
      ·intro w'
       go_simp
       with_reducible rfl
      rotate_left
      ·simp only [sp_]
       rfl
      refine done_ (by kernel_rfl) ?_
      try go_wp2
      go_roundg k1
      case measure => have := HK1.out; omega
      case rel => exact ⟨(wrap64 (x1_1 + 1)), (wrap64 (x5_1 + 1)), (by first | rfl | (simp; done) | (simp [*]; done)), (by first | rfl | (simp; done) | (simp [*]; done)), H', ⟨by have := HK1.out; omega⟩, ⟨by repeat (first | (with_reducible first | exact HB.out | apply below_alloc | apply pw_below_drewN | apply below_drew1) | exact HB.out)⟩⟩
     ·rw [if_neg c6] at H
      exact absurd H (by simp)
    ·rw [if_neg c4] at H
     exact absurd H (by simp)
   ·rw [if_neg c3] at H
    have c3b0 : decide (x5_1 < (l0.length : Int)) = false := decide_eq_false c3
    clear c3
    obtain rfl := Option.some.inj H
    go_wp2
    go_ret
    exact ⟨by first | rfl | (simp [errW_none, errW_some] <;> rfl) | (simp [*, errW_none, errW_some] <;> rfl), by repeat (first | (with_reducible first | exact HB.out | apply below_alloc | apply pw_below_drewN | apply below_drew1) | exact HB.out)⟩

/-! ### laws_heldInt64S: function 121 -/
def laws_heldInt64S.l0 : Nat → List Int → Int → Int → Option (Int)
 | 0, _, _, _ => none
 | k + 1, x0, x1, x5 => if x5 < (x0.length : Int) then (if 0 ≤ x5 then (if (rd x0 x5) = x1 then (laws_heldInt64S.l0 k x0 (wrap64 (x1 + 1)) (wrap64 (x5 + 1))) else (none)) else (none)) else (some x1)
def laws_heldInt64S.f (k : Nat) (l0 : List Int) (a1 : Int) : Option (Int) := laws_heldInt64S.l0 k l0 a1 0
theorem laws_heldInt64S.mono_l : ∀ k, (∀ y0 y1 y2, LeO (laws_heldInt64S.l0 k y0 y1 y2) (laws_heldInt64S.l0 (k + 1) y0 y1 y2))
 | 0 => fun _ _ _ r h => by simp [laws_heldInt64S.l0] at h
 | k + 1 => by
  have ih0 := laws_heldInt64S.mono_l k
  ·intro y0 y1 y2
   unfold laws_heldInt64S.l0
   repeat' first
   | (with_reducible exact ih0 _ _ _)
   | (with_reducible exact LeO.refl _)
   | (with_reducible exact LeO.none _)
   | (with_reducible refine LeO.ite ?_ ?_)
   | (with_reducible refine LeO.bind ?_ (fun _ => ?_))
   | exact ih0 _ _ _
   | exact LeO.none _
   | refine LeO.ite ?_ ?_
   | refine LeO.bind ?_ (fun _ => ?_)
theorem laws_heldInt64S.mono : ∀ a0 a1 k, LeO (laws_heldInt64S.f k a0 a1) (laws_heldInt64S.f (k + 1) a0 a1) := by
 intro a0 a1 k
 have ih0 := laws_heldInt64S.mono_l k
 unfold laws_heldInt64S.f
 repeat' first
   | (with_reducible exact ih0 _ _ _)
   | (with_reducible exact LeO.refl _)
   | (with_reducible exact LeO.none _)
   | (with_reducible refine LeO.ite ?_ ?_)
   | (with_reducible refine LeO.bind ?_ (fun _ => ?_))
   | exact ih0 _ _ _
   | exact LeO.none _
   | refine LeO.ite ?_ ?_
   | refine LeO.bind ?_ (fun _ => ?_)
set_option maxHeartbeats 8000000 in
set_option maxRecDepth 100000 in
theorem laws_heldInt64S.calls (k : Nat) (A0 : Option Addr) (c0 : Nat) (l0 : List Int) (a1 : Int) (r : Int) (w : World) (hr0 : Kd.C (Kd.int .i64) w A0 l0.length l0) (hc0 : l0.length ≤ c0) (h : laws_heldInt64S.f k l0 a1 = some r) :
  Calls Try.prog 121 #[.slice A0 l0.length c0, .int .i64 a1] w fun e w' => e = .returned (.int .i64 r) ∧ Drawn0 w w' := by
 have HR0 := Aside0.mk hr0
 have HC0 := Aside0.mk hc0
 clear hr0 hc0
 have H : (laws_heldInt64S.l0 k l0 a1 0) = some r := h
 clear h
 have H' := Aside0.mk H
 clear H
 go_enter Try.func121, Try.ntmps121
 go_wp2
 go_loopg [1, 5] k (fun kq v1 v5 w' => ∃ (x1_1 : Int) (x5_1 : Int), v1 = .int .i64 x1_1 ∧ v5 = .int .i64 x5_1 ∧ Aside0 (laws_heldInt64S.l0 kq l0 x1_1 x5_1 = some r) ∧ Aside0 (kq ≤ k) ∧ Drawn0 w w')
 case atStart => exact ⟨(a1), (0), (by first | rfl | (simp; done) | (simp [*]; done)), (by first | rfl | (simp; done) | (simp [*]; done)), H', ⟨Nat.le_refl _⟩, by repeat (first | exact Drawn0.refl _ | apply Drawn0.step)⟩
 case round =>
  clear H'
  try clear c1
  try clear p2
  obtain ⟨x1_1, x5_1, rfl, rfl, HA, HK1, ⟨m1, rfl⟩⟩ := hrel
  cases gk with
  | zero => exact absurd HA.out (by simp [laws_heldInt64S.l0])
  | succ k1 =>
   have H := HA.out
   clear HA
   simp only [laws_heldInt64S.l0] at H
   by_cases c3 : x5_1 < (l0.length : Int)
   ·rw [if_pos c3] at H
    have c3b0 : decide (x5_1 < (l0.length : Int)) = true := decide_eq_true c3
    clear c3
    by_cases c4 : 0 ≤ x5_1
    ·rw [if_pos c4] at H
     have c4b0 : decide (0 ≤ x5_1) = true := decide_eq_true c4
     clear c4
     by_cases c5 : (rd l0 x5_1) = x1_1
     ·rw [if_pos c5] at H
      have c5b0 : ((rd l0 x5_1) == x1_1) = true := beq_iff_eq.mpr c5
      have c5b1 : ((rd l0 x5_1) != x1_1) = false := bne_eq_false_iff_eq.mpr c5
      clear c5
      have H' := Aside0.mk H
      clear H
      have p233 : 0 ≤ (x5_1 : Int) := of_decide_eq_true (by first | (with_reducible assumption) | assumption)
      have q233 : x5_1 < (l0.length : Int) := of_decide_eq_true (by first | (with_reducible assumption) | assumption)
      obtain ⟨ad233, e233, hx233_0⟩ := Kd.at_int HR0.out x5_1 p233 q233
      cases e233
      replace p233 := eq_true p233
      replace q233 := eq_true q233
      go_wp2
      go_roundg k1
      case measure => have := HK1.out; omega
      case rel => exact ⟨(wrap64 (x1_1 + 1)), (wrap64 (x5_1 + 1)), (by first | rfl | (simp; done) | (simp [*]; done)), (by first | rfl | (simp; done) | (simp [*]; done)), H', ⟨by have := HK1.out; omega⟩, by repeat (first | exact Drawn0.refl _ | apply Drawn0.step)⟩
     ·rw [if_neg c5] at H
      exact absurd H (by simp)
    ·rw [if_neg c4] at H
     exact absurd H (by simp)
   ·rw [if_neg c3] at H
    have c3b0 : decide (x5_1 < (l0.length : Int)) = false := decide_eq_false c3
    clear c3
    obtain rfl := Option.some.inj H
    go_wp2
    go_ret
    exact ⟨by first | rfl | (simp; done) | (simp [*]; done), by repeat (first | exact Drawn0.refl _ | apply Drawn0.step)⟩

end Go.Proofs.Ytckgkhlgnblblaa.PFnExactNewCluster
