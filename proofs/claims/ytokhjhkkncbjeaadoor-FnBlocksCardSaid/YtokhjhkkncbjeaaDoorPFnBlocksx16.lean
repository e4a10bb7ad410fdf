-- Written by a program of this session (wip/tools/pp.py over the kit's print).
import Derived.Test.YtokhjhkkncbjeaaDoorPFnBlocksx0
import Derived.Test.YtokhjhkkncbjeaaDoorPFnBlocksx12
import Derived.Test.YtokhjhkkncbjeaaDoorPFnBlocksx15
namespace Go.Proofs.YtokhjhkkncbjeaaDoor.PFnBlocks
open Go.RowKit Go.Proofs.YtokhjhkkncbjeaaDoorW.PrintWords Go.Proofs.YtokhjhkkncbjeaaDoorW.PrintLast Go.Proofs.YtokhjhkkncbjeaaDoorW.PrintMore
attribute [local go_sem] max2_int min2_int max_two min_two max_three min_three max_four min_four
attribute [local go_sem high] str_gtr str_leq str_geq
set_option linter.unusedVariables false
set_option linter.unusedSimpArgs false

theorem conv_obj (W : World) (e : TypeId) (s : ByteArray) (hs : s.size ≤ 9223372036854775807) :
  ∃ cs fr, (Lib.bytesWorld W e s).heap[W.heap.size]? = some (.cells cs e fr) ∧ ∀ W1 : World, W1.heap[W.heap.size]? = some (.cells cs e fr) →
   Kd.C (Kd.int .u8) W1 (some ⟨W.heap.size, 0, none⟩) (bytesOf s).length (bytesOf s) := by
 have hlt : W.heap.size < (Lib.bytesWorld W e s).heap.size := by rw [Lib.bytesWorld_size]; omega
 have hfz : ∃ cs fr, (Lib.bytesWorld W e s).heap[W.heap.size]? = some (.cells cs e fr) := by
  simp only [Lib.bytesWorld, World.freeze, World.alloc, World.drew, show ¬ (1 = 0) from by decide, if_false, Array.getElem?_modify, Array.getElem?_push_size, if_true, Option.map_some]
  exact ⟨_, _, rfl⟩
 obtain ⟨cs, fr, h0⟩ := hfz
 refine ⟨cs, fr, h0, fun W1 h1 => ?_⟩
 have hr := bytes_reads W e s hs
 refine Kd.C_of_reads (h1 := fun _ => rfl) (d := 0) ⟨rfl, (by rw [bytesOf_length]; exact hs), fun hp => ⟨_, rfl, fun j hj => ?_⟩⟩
 obtain ⟨ad, ea, hc⟩ := hr.2.2 (by rw [bytesOf_length] at hp; exact hp)
 cases ea
 have h2 := hc j (by rw [bytesOf_length] at hj; exact hj)
 rw [add_plain] at h2 ⊢
 rw [← h2]
 simp only [World.cell?, h1, h0]
theorem Kd.V_conv {P : Program} {ops : Array Oper} {rest : List Oper} {Q : Exit → Act → World → Prop} {o : Oper} {a : Act} {w0 W : World} (base e : Nat) (hgd : o.guard = none) {N : Tmp} (_hd : o.dst = some N) (s : ByteArray) {ok : Nat → Prop}
  {src dst : TypeId} {u : TypeDesc} (h1_ : P.underlying src = some u) (h2_ : P.underlying dst = some (.slice e)) (h3_ : P.underlying e = some (.int .u8)) (hex : execOp a.eval o = (convert src dst (.string s) >>= fun v => pure (Next.value v)))
  (hfresh : ok W.heap.size) (HB : Below base w0 W) (hbase : base ≤ W.heap.size) (hs : (s.size : Int) ≤ 9223372036854775807)
  (h : ∀ v1 w1, Kd.V (Kd.int .u8) e w1 base ok v1 (bytesOf s) → Below base w0 w1 → W.grownBy w1 none → (∃ b, v1.ownBlock = some b ∧ W.heap.size ≤ b) → wpList P ops Q rest (a.put o.dst v1) w1) : wpList P ops Q (o :: rest) a W := by
 have hrun : (execOp a.eval o).run P W = .ok (.value (.slice (some ⟨W.heap.size, 0, none⟩) s.size (grownCap W s.size 0 e))) (Lib.bytesWorld W e s) := by
  have kb_ := print_bytes (P := P) src dst e h1_ h2_ h3_ s W
  rw [hex]
  rw [Sem.run_bind, kb_]; rfl
 obtain ⟨cs, fr, h1, h2⟩ := conv_obj W e s (by omega)
 have hb := bytes_below (Below.refl W.heap.size W) (Nat.le_refl _) e s
 have hcap : s.size ≤ grownCap W s.size 0 e := grownCap_ge _ _ _ _
 refine Kd.event_run hgd hrun (h _ _ ⟨_, grownCap W s.size 0 e, (by rw [bytesOf_length]), (by rw [bytesOf_length]; exact hcap), fun W' hW => ?_⟩ (bytes_below HB hbase e s) (grown_of_below hb none) ⟨W.heap.size, (by simp [Value.ownBlock]), Nat.le_refl _⟩)
 have hlt : W.heap.size < (Lib.bytesWorld W e s).heap.size := by rw [Lib.bytesWorld_size]; omega
 exact h2 W' ((hW _ hfresh hlt).trans h1)
/-! ### spec_ReadBlock: function 10 -/
mutual
def spec_ReadBlock.l0 : Nat → ByteArray → List Int → List Int → Int → Int → Option (Int × Int × Int × Int × List Int × List Int × List ByteArray × Int × Bool)
 | 0, _, _, _, _, _ => none
 | k + 1, x0, x4, x5, x6, x7 => if (x5.length : Int) < x7 then (if 0 ≤ x6 then (if x6 ≤ (x4.length : Int) then ((spec_ReadNumber.f k (x4.drop (x6 : Int).toNat)).bind fun bt556 => (if bt556.2 = 0 then (some (0, 0, 0, 0, ([] : List Int), ([] : List Int), ([] : List ByteArray), 0, false)) else (if x5.length < 17592186044416 then ((some (x5 ++ [bt556.1] : List Int)).bind fun y558 => (if (y558.length : Int) = 5 then (if bt556.1 > 7 then (some (0, 0, 0, 0, ([] : List Int), ([] : List Int), ([] : List ByteArray), 0, false)) else (spec_ReadBlock.l0 k x0 x4 y558 (wrap64 (x6 + bt556.2)) (wrap64 (5 + (wrap64 (2 * bt556.1)))))) else (spec_ReadBlock.l0 k x0 x4 y558 (wrap64 (x6 + bt556.2)) x7))) else (none)))) else (none)) else (none)) else (if 0 ≤ x6 then (if x6 ≤ (x4.length : Int) then ((spec_l1ReadTexts.f k (x4.drop (x6 : Int).toNat)).bind fun bt566 => (if bt566.2 = 0 then (some (0, 0, 0, 0, ([] : List Int), ([] : List Int), ([] : List ByteArray), 0, false)) else (if 0 ≤ (wrap64 (x6 + bt566.2)) then (if (wrap64 (x6 + bt566.2)) ≤ (x4.length : Int) then ((spec_ReadNumber.f k (x4.drop ((wrap64 (x6 + bt566.2)) : Int).toNat)).bind fun bt575 => (if 0 < (x5.length : Int) then (if 1 < (x5.length : Int) then (if 2 < (x5.length : Int) then (if 3 < (x5.length : Int) then (spec_ReadBlock.l1 k x0 x5 5 (rd x5 0) (rd x5 1) (rd x5 2) (rd x5 3) ([] : List Int) ([] : List Int) bt566.1 bt575.1) else (none)) else (none)) else (none)) else (none))) else (none)) else (none)))) else (none)) else (none))
def spec_ReadBlock.l1 : Nat → ByteArray → List Int → Int → Int → Int → Int → Int → List Int → List Int → List ByteArray → Int → Option (Int × Int × Int × Int × List Int × List Int × List ByteArray × Int × Bool)
 | 0, _, _, _, _, _, _, _, _, _, _, _ => none
 | k + 1, x0, x5, x15, x582000, x582001, x582002, x582003, x582004, x582005, x582006, x582007 => if x15 < (x5.length : Int) then (if 0 ≤ x15 then (if x582004.length < 17592186044416 then (if 0 ≤ (wrap64 (x15 + 1)) then (if (wrap64 (x15 + 1)) < (x5.length : Int) then (if x582005.length < 17592186044416 then (spec_ReadBlock.l1 k x0 x5 (wrap64 (x15 + 2)) x582000 x582001 x582002 x582003 (x582004 ++ [rd x5 x15]) (x582005 ++ [rd x5 (wrap64 (x15 + 1))]) x582006 x582007) else (none)) else (none)) else (none)) else (none)) else (none)) else ((spec_ShowBlock.f k x582000 x582001 x582002 x582003 x582004 x582005 x582006 x582007).bind fun t590 => (if t590.toList = x0.toList then (if x0.toList = ([] : List UInt8) then (some (0, 0, 0, 0, ([] : List Int), ([] : List Int), ([] : List ByteArray), 0, false)) else (some (x582000, x582001, x582002, x582003, x582004, x582005, x582006, x582007, true))) else (some (0, 0, 0, 0, ([] : List Int), ([] : List Int), ([] : List ByteArray), 0, false))))
end
def spec_ReadBlock.f (k : Nat) (a0 : ByteArray) : Option (Int × Int × Int × Int × List Int × List Int × List ByteArray × Int × Bool) := if (a0.size : Int) ≤ 9223372036854775807 then (spec_ReadBlock.l0 k a0 (bytesOf a0) (([] : List Int)) 0 5) else (none)
theorem spec_ReadBlock.mono_l : ∀ k, (∀ y0 y1 y2 y3 y4, LeO (spec_ReadBlock.l0 k y0 y1 y2 y3 y4) (spec_ReadBlock.l0 (k + 1) y0 y1 y2 y3 y4)) ∧ (∀ y0 y1 y2 y3 y4 y5 y6 y7 y8 y9 y10, LeO (spec_ReadBlock.l1 k y0 y1 y2 y3 y4 y5 y6 y7 y8 y9 y10) (spec_ReadBlock.l1 (k + 1) y0 y1 y2 y3 y4 y5 y6 y7 y8 y9 y10))
 | 0 => ⟨fun _ _ _ _ _ r h => by simp [spec_ReadBlock.l0] at h, fun _ _ _ _ _ _ _ _ _ _ _ r h => by simp [spec_ReadBlock.l1] at h⟩
 | k + 1 => by
  obtain ⟨ih0, ih1⟩ := spec_ReadBlock.mono_l k
  refine ⟨?_, ?_⟩
  ·intro y0 y1 y2 y3 y4
   unfold spec_ReadBlock.l0
   repeat' with_reducible first
   | exact ih0 _ _ _ _ _
   | exact ih1 _ _ _ _ _ _ _ _ _ _ _
   | exact spec_ReadNumber.mono _ _
   | exact spec_ShowBlock.mono _ _ _ _ _ _ _ _ _
   | exact spec_l1ReadTexts.mono _ _
   | exact LeO.refl _
   | exact LeO.none _
   | refine LeO.ite ?_ ?_
   | refine LeO.bind ?_ (fun _ => ?_)
  ·intro y0 y1 y2 y3 y4 y5 y6 y7 y8 y9 y10
   unfold spec_ReadBlock.l1
   repeat' with_reducible first
   | exact ih0 _ _ _ _ _
   | exact ih1 _ _ _ _ _ _ _ _ _ _ _
   | exact spec_ReadNumber.mono _ _
   | exact spec_ShowBlock.mono _ _ _ _ _ _ _ _ _
   | exact spec_l1ReadTexts.mono _ _
   | exact LeO.refl _
   | exact LeO.none _
   | refine LeO.ite ?_ ?_
   | refine LeO.bind ?_ (fun _ => ?_)
theorem spec_ReadBlock.mono : ∀ a0 k, LeO (spec_ReadBlock.f k a0) (spec_ReadBlock.f (k + 1) a0) := by
 intro a0 k
 obtain ⟨ih0, ih1⟩ := spec_ReadBlock.mono_l k
 unfold spec_ReadBlock.f
 repeat' with_reducible first
   | exact ih0 _ _ _ _ _
   | exact ih1 _ _ _ _ _ _ _ _ _ _ _
   | exact spec_ReadNumber.mono _ _
   | exact spec_ShowBlock.mono _ _ _ _ _ _ _ _ _
   | exact spec_l1ReadTexts.mono _ _
   | exact LeO.refl _
   | exact LeO.none _
   | refine LeO.ite ?_ ?_
   | refine LeO.bind ?_ (fun _ => ?_)
def spec_ReadBlock.T20 : Bool × List (List Nat × List Nat) := (true, [([], []), ([0], [0]), ([1], [1]), ([], []), ([3], [3]), ([4], [4]), ([], []), ([6], [6]), ([7], [7]), ([], []), ([9], [9]), ([10], [10]), ([8, 11], [8, 11]), ([], []), ([], []), ([2, 5, 12, 13, 14], [2, 5, 12, 13, 14]), ([], []), ([16, 15, 0, 1, 2, 3, 4, 5, 6, 7, 8, 9, 10, 11, 12, 13, 14, 15, 16], [15, 16])])
def spec_ReadBlock.B20 : List Nat := [0, 1, 3, 0, 8, 24, 0, 64, 192, 0, 512, 1536, 4032, 0, 0, 32767, 0, 131071]
theorem spec_ReadBlock.tab20 : rtab .any (opsOf Tryd.f10 20) = spec_ReadBlock.T20 := by kernel_rfl
theorem spec_ReadBlock.bits20 : waitsOk spec_ReadBlock.T20.2 spec_ReadBlock.B20 = true := by kernel_rfl
def spec_ReadBlock.T24 : Bool × List (List Nat × List Nat) := (true, [([], []), ([0], [0]), ([1], [1]), ([], []), ([], []), ([3, 4], [3, 4]), ([5], [5]), ([6], [6]), ([2, 7], [2, 7]), ([0, 1, 2, 3, 4, 5, 6, 7, 8], []), ([9, 0, 1, 2, 3, 4, 5, 6, 7, 8], [9]), ([10, 8, 8, 0, 1, 2, 3, 4, 5, 6, 7, 8], [8, 10])])
def spec_ReadBlock.B24 : List Nat := [0, 1, 3, 0, 0, 24, 56, 120, 255, 511, 1023, 2047]
theorem spec_ReadBlock.tab24 : rtab .any (opsOf Tryd.f10 24) = spec_ReadBlock.T24 := by kernel_rfl
theorem spec_ReadBlock.bits24 : waitsOk spec_ReadBlock.T24.2 spec_ReadBlock.B24 = true := by kernel_rfl
def spec_ReadBlock.T25 : Bool × List (List Nat × List Nat) := (true, [([], []), ([0], [0]), ([1], [1]), ([], []), ([], []), ([4], [4]), ([3, 5], [3, 5]), ([6], [6]), ([7], [7]), ([2, 8], [2, 8]), ([0, 1, 2, 3, 4, 5, 6, 7, 8, 9], []), ([10, 0, 1, 2, 3, 4, 5, 6, 7, 8, 9], [10]), ([11, 9, 9, 0, 1, 2, 3, 4, 5, 6, 7, 8, 9], [9, 11])])
def spec_ReadBlock.B25 : List Nat := [0, 1, 3, 0, 0, 16, 56, 120, 248, 511, 1023, 2047, 4095]
theorem spec_ReadBlock.tab25 : rtab .any (opsOf Tryd.f10 25) = spec_ReadBlock.T25 := by kernel_rfl
theorem spec_ReadBlock.bits25 : waitsOk spec_ReadBlock.T25.2 spec_ReadBlock.B25 = true := by kernel_rfl
set_option maxHeartbeats 8000000 in
set_option maxRecDepth 100000 in
theorem spec_ReadBlock.calls (k : Nat) (a0 : ByteArray) (r1 : Int) (r2 : Int) (r3 : Int) (r4 : Int) (r5 : List Int) (r6 : List Int) (r7 : List ByteArray) (r8 : Int) (r9 : Bool) (w : World) (h : spec_ReadBlock.f k a0 = some (r1, r2, r3, r4, r5, r6, r7, r8, r9)) :
  Calls Tryd.prog 10 #[.string a0] w fun e w' => ∃ v4_ v5_ v6_ : Value, e = .returned (.tuple #[.agg #[.int .i64 r1, .int .i64 r2, .int .i64 r3, .int .i64 r4, v4_, v5_, v6_, .int .i64 r8], .bool r9]) ∧ Kd.R (Kd.int .i64) 2 w' w.heap.size (fun k_ => some k_ ≠ (v5_ : Value).ownBlock) v4_ r5 ∧ Kd.R (Kd.int .i64) 2 w' w.heap.size (fun k_ => some k_ ≠ (v4_ : Value).ownBlock) v5_ r6 ∧ Kd.R Kd.string 9 w' w.heap.size (fun _ => True) v6_ r7 ∧ Below w.heap.size w w' := by
 have hu29 := Tryd.underlying29
 have hu26 := Tryd.underlying26
 have HB := Aside0.mk (Below.refl w.heap.size w)
 have H : (if (a0.size : Int) ≤ 9223372036854775807 then (spec_ReadBlock.l0 k a0 (bytesOf a0) (([] : List Int)) 0 5) else (none)) = some (r1, r2, r3, r4, r5, r6, r7, r8, r9) := h
 clear h
 by_cases c2 : (a0.size : Int) ≤ 9223372036854775807
 ·rw [if_pos c2] at H
  have c2b0 := eq_true c2
  have c2b1 : decide ((a0.size : Int) ≤ 9223372036854775807) = true := decide_eq_true c2
  try have c2b2 : (9223372036854775807 < (a0.size : Int)) = False := eq_false (Nat.not_lt.2 c2)
  clear c2
  obtain ⟨y545, hy545⟩ : ∃ y_ : List Int, y_ = (bytesOf a0) := ⟨_, rfl⟩
  replace H : (spec_ReadBlock.l0 k a0 y545 (([] : List Int)) 0 5) = some (r1, r2, r3, r4, r5, r6, r7, r8, r9) := by first | (rw [hy545]; with_reducible exact H) | (have H2_ := (Option.bind_some _ _).symm.trans H; rw [hy545]; with_reducible exact H2_) | (have H2_ := (Option.bind_some _ _).symm.trans H; with_reducible exact H2_) | with_reducible exact H | (rw [hy545]; exact H) | exact H
  have Ny545 := Aside0.mk hy545
  clear hy545
  obtain ⟨y548, hy548⟩ : ∃ y_ : List Int, y_ = (([] : List Int)) := ⟨_, rfl⟩
  replace H : (spec_ReadBlock.l0 k a0 y545 y548 0 5) = some (r1, r2, r3, r4, r5, r6, r7, r8, r9) := by first | (rw [hy548]; with_reducible exact H) | (have H2_ := (Option.bind_some _ _).symm.trans H; rw [hy548]; with_reducible exact H2_) | (have H2_ := (Option.bind_some _ _).symm.trans H; with_reducible exact H2_) | with_reducible exact H | (rw [hy548]; exact H) | exact H
  have Ny548 := Aside0.mk hy548
  clear hy548
  have H' := Aside0.mk H
  clear H
  go_enter Tryd.func10, Tryd.ntmps10
  go_wp2_with (first | ((with_reducible refine gate_dst (N := 2) rfl ?_); refine box_event ?hg (N := 2) ?hd (cs := #[.int .i64 0, .int .i64 0, .int .i64 0, .int .i64 0, .slice none 0 0, .slice none 0 0, .slice none 0 0, .int .i64 0]) (t := 29) ?hr ?_; (case hd => rfl); (case hg => rfl); (case hr => first | (go_simp; done) | (go_simp; rfl)); intro gb544 hg w3 hbox hb; have BK544 := Aside0.mk (hbox); have GW544 := Aside0.mk ((by rw [hg]; exact (below_size Z0) : w.heap.size ≤ gb544)); have GE544 := Aside0.mk ((by rw [hg]; exact (below_size Z0) : w.heap.size ≤ gb544)); replace HB := Aside0.mk (below_step Z0 hb); clear hb hbox hg) | ((with_reducible refine gate_dst (N := 17) rfl ?_); refine Kd.V_conv _ 5 ?hg (N := 17) ?hd a0 (ok := (fun k_ => k_ ≠ gb544)) Tryd.underlying9 Tryd.underlying22 Tryd.underlying5 ?hr ((show ∀ k_, w3.heap.size ≤ k_ → (fun k_ => k_ ≠ gb544) k_ from fun k_ hk => Kd.freshB (g := gb544) (o := .cells #[.int .i64 0, .int .i64 0, .int .i64 0, .int .i64 0, .slice none 0 0, .slice none 0 0, .slice none 0 0, .int .i64 0] 29 (0, 0)) Z16 k_ hk) _ (Nat.le_refl _)) (Below.refl _ _) (Nat.le_refl _) (od_) ?_; (case hd => rfl); (case hg => rfl); (case hr => rfl); intro v546 w4 ho5 hb hg_ hnew_; clear hg_ hnew_; (first | rw [← Ny545.out] at ho5 | (simp only [Int.reduceToNat] at ho5; rw [← Ny545.out] at ho5)); have HO547 := Aside0.mk (Kd.V_lower ho5 (below_size Z12)); replace BK544 := Aside0.mk (blk_below (g := gb544) (o := .cells #[.int .i64 0, .int .i64 0, .int .i64 0, .int .i64 0, .slice none 0 0, .slice none 0 0, .slice none 0 0, .int .i64 0] 29 (0, 0)) Z16 hb); replace HB := Aside0.mk (below_step Z12 hb); clear hb ho5) | ((with_reducible refine gate_dst (N := 18) rfl ?_); refine Kd.R_lit (Kd.int .i64) _ 2 ?hg (N := 18) ?hd (xs := ([] : List Int)) (inner := []) (ok := fun _ => True) (okp := fun _ => True) ?hr ?hp (fun _ hk => hk) trivial (Below.refl _ _) (Nat.le_refl _) (by simp) ?_; (case hd => rfl); (case hg => rfl); (case hr => first | (go_simp; done) | (go_simp; rfl)); (case hp => exact (Reps.none _ _)); intro v549 w6 ho7 hb hg_ hnew_; clear hg_ hnew_; (first | rw [← Ny548.out] at ho7 | (simp only [Int.reduceToNat] at ho7; rw [← Ny548.out] at ho7)); replace HO547 := Aside0.mk (Kd.V_elder' (by (with_reducible repeat (first | apply Kd.V_alloc | apply Kd.V_drewN | apply Kd.V_drew)); exact HO547.out) (Kd.R_base ho7) hb); have HO550 := Aside0.mk (Kd.R_lower ho7 (below_size Z12)); replace BK544 := Aside0.mk (blk_below (g := gb544) (o := .cells #[.int .i64 0, .int .i64 0, .int .i64 0, .int .i64 0, .slice none 0 0, .slice none 0 0, .slice none 0 0, .int .i64 0] 29 (0, 0)) Z16 hb); replace HB := Aside0.mk (below_step Z12 hb); clear hb ho7))
  go_loopg [5, 6, 7] k (fun kq v5 v6 v7 w' => ∃ (x5_1 : List Int) (x6_1 : Int) (x7_1 : Int) (x545000_1 : Int) (x545001_1 : Int) (x545002_1 : Int) (x545003_1 : Int) (x545007_1 : Int), v6 = .int .i64 x6_1 ∧ v7 = .int .i64 x7_1 ∧ Aside0 (spec_ReadBlock.l0 kq a0 y545 x5_1 x6_1 x7_1 = some (r1, r2, r3, r4, r5, r6, r7, r8, r9)) ∧ Aside0 (kq ≤ k) ∧ Aside0 (Kd.V (Kd.int .u8) 5 w' w.heap.size (fun k_ => some k_ ≠ (v5 : Value).ownBlock ∧ k_ ≠ gb544) v546 y545) ∧ Aside0 (Kd.R (Kd.int .i64) 2 w' w.heap.size (fun _ => True) v5 x5_1) ∧ Aside0 (w'.heap[gb544]? = some (.cells #[.int .i64 x545000_1, .int .i64 x545001_1, .int .i64 x545002_1, .int .i64 x545003_1, (.slice none 0 0), (.slice none 0 0), (.slice none 0 0), .int .i64 x545007_1] 29 (0, 0))) ∧ Aside0 (Below w.heap.size w w'))
  case atStart => exact ⟨(y548), (0), (5), (0), (0), (0), (0), (0), Z4, Z4, H', ⟨Nat.le_refl _⟩, ⟨(by (with_reducible repeat (first | apply Kd.V_alloc | apply Kd.V_drewN | apply Kd.V_drew)); exact Kd.V_mono HO547.out (fun _ hk => And.intro hk.2 hk.1))⟩, ⟨(by (with_reducible repeat (first | apply Kd.R_alloc | apply Kd.R_drewN | apply Kd.R_drew)); exact HO550.out)⟩, ⟨J43⟩, ⟨J24⟩⟩
  case round =>
   clear H'
   try clear c1
   try clear c2
   try clear c2b0
   try clear c2b1
   try clear c2b2
   try clear p2
   obtain ⟨x5_1, x6_1, x7_1, x545000_1, x545001_1, x545002_1, x545003_1, x545007_1, rfl, rfl, HA, HK1, HO_4, HO_5, BK544, HB⟩ := hrel
   cases gk with
   | zero => exact absurd HA.out (by simp [spec_ReadBlock.l0])
   | succ k1 =>
    have H := HA.out
    clear HA
    simp only [spec_ReadBlock.l0] at H
    by_cases c8 : (x5_1.length : Int) < x7_1
    ·rw [if_pos c8] at H
     have c8b0 : decide ((x5_1.length : Int) < x7_1) = true := decide_eq_true c8
     clear c8
     by_cases c9 : 0 ≤ x6_1
     ·rw [if_pos c9] at H
      have c9b0 := eq_true c9
      have c9b1 : decide (0 ≤ x6_1) = true := decide_eq_true c9
      clear c9
      by_cases c10 : x6_1 ≤ (y545.length : Int)
      ·rw [if_pos c10] at H
       have c10b0 := eq_true c10
       have c10b1 : decide (x6_1 ≤ (y545.length : Int)) = true := decide_eq_true c10
       clear c10
       obtain ⟨y551, hy551⟩ : ∃ y_ : List Int, y_ = (y545.drop (x6_1 : Int).toNat) := ⟨_, rfl⟩
       replace H : ((spec_ReadNumber.f k1 y551).bind fun bt556 => (if bt556.2 = 0 then (some (0, 0, 0, 0, ([] : List Int), ([] : List Int), ([] : List ByteArray), 0, false)) else (if x5_1.length < 17592186044416 then ((some (x5_1 ++ [bt556.1] : List Int)).bind fun y558 => (if (y558.length : Int) = 5 then (if bt556.1 > 7 then (some (0, 0, 0, 0, ([] : List Int), ([] : List Int), ([] : List ByteArray), 0, false)) else (spec_ReadBlock.l0 k1 a0 y545 y558 (wrap64 (x6_1 + bt556.2)) (wrap64 (5 + (wrap64 (2 * bt556.1)))))) else (spec_ReadBlock.l0 k1 a0 y545 y558 (wrap64 (x6_1 + bt556.2)) x7_1))) else (none)))) = some (r1, r2, r3, r4, r5, r6, r7, r8, r9) := by first | (rw [hy551]; with_reducible exact H) | (have H2_ := (Option.bind_some _ _).symm.trans H; rw [hy551]; with_reducible exact H2_) | (have H2_ := (Option.bind_some _ _).symm.trans H; with_reducible exact H2_) | with_reducible exact H | (rw [hy551]; exact H) | exact H
       have Ny551 := Aside0.mk hy551
       clear hy551
       replace H := Option.bind_eq_some_iff.mp H
       obtain ⟨⟨t556, t557⟩, A110, H⟩ := H
       try dsimp only at H
       have A11 := Aside0.mk A110
       clear A110
       have HC12 := Aside0.mk H
       clear H
       obtain ⟨Ao13, co13, eo13⟩ := Kd.R_slice HO_5.out
       subst eo13
       obtain ⟨Ao15, co15, eo15⟩ := Kd.V_slice HO_4.out
       subst eo15
       have q14 : (x6_1 : Int) ≤ ((y545.length : Int) : Int) := od_
       obtain ⟨i014, hi014, _, hsz14, _⟩ := info_parts info5
       have hroom14 : y545.length ≤ co15 := (Kd.V_reads' HO_4.out).2.1
       have hC14 : Kd.F (Kd.int .u8) _ _ Ao15 y545.length y545 := (Kd.V_at (base := w.heap.size) HO_4.out).2.2
       have q014 : (0 : Int) ≤ (x6_1 : Int) := od_
       have hcut14 := cut_from (P := Tryd.prog) 22 5 .i64 Tryd.underlying22 hi014 1 hsz14 Ao15 y545.length co15 x6_1 q014 q14
       have hr14 := Kd.F_cut (m := (x6_1 : Int).toNat) (c := co15) hC14 (by omega) hroom14
       obtain ⟨A14, hA14⟩ : ∃ A1, A1 = (if co15 = (x6_1 : Int).toNat then Ao15 else (Ao15 : Option Addr).map (·.add ((x6_1 : Int).toNat * 1))) := ⟨_, rfl⟩
       obtain ⟨c14, hc14⟩ : ∃ c1, c1 = co15 - (x6_1 : Int).toNat := ⟨_, rfl⟩
       have hy14 : y551.length = y545.length - (x6_1 : Int).toNat := (by rw [Ny551.out, List.length_drop] <;> omega)
       rw [show (y545).drop (x6_1 : Int).toNat = y551 from Ny551.out.symm] at hr14
       replace hr14 : Kd.F (Kd.int .u8) _ _ A14 y551.length y551 := (by rw [hA14]; exact hr14)
       rw [← hy14, ← hA14, ← hc14] at hcut14
       have HO555 := Aside0.mk (show Kd.V (Kd.int .u8) 5 _ w.heap.size _ (.slice A14 y551.length c14) y551 from Kd.V_mk (by rw [hy14, hc14]; exact Nat.sub_le_sub_right hroom14 _) hr14)
       have HC555 := Aside0.mk (show y551.length ≤ c14 from (by rw [hy14, hc14]; exact Nat.sub_le_sub_right hroom14 _))
       clear hr14 hC14 hroom14 hi014 hsz14 hc14
       have KY14 := Aside0.mk hy14
       have KA14 := Aside0.mk hA14
       clear hy14 hA14
       replace q14 := eq_true q14
       go_upto_if 31 with (first | ((with_reducible refine gate_callee (f := 28) rfl ?_); refine goesL_ (some 27) rfl rfl Tryd.func28 (by kernel_rfl) rfl #[.slice A14 y551.length c14] rfl Z2 ?_; (with_reducible refine (spec_ReadNumber.calls k1 _ _ y551 t556 t557 _ ?side1 ?side2 A11.out).mono ?_); (case side1 => exact (by repeat (first | exact (Kd.V_reads' HO555.out).2.2 | (with_reducible refine Kd.C_alloc ?_ _) | (with_reducible refine Kd.C_drewN ?_ _) | (with_reducible refine Kd.C_drew ?_)))); (case side2 => exact (Kd.V_reads' HO555.out).2.1); rintro e w' ⟨rfl, ⟨nd, rfl⟩⟩; refine ⟨_, rfl, ?_⟩))
       (try simp only [Act.put, List.setIfInBounds_toArray, List.set_cons_zero, List.set_cons_succ])
       (try (rw [drewN_self wr]; generalize hq_ : World.drewN wr _ = wr; replace HO_4 := Aside0.mk (Kd.V_at hq_ HO_4.out); replace HO_5 := Aside0.mk (Kd.R_at hq_ HO_5.out); replace BK544 := Aside0.mk (blk_at hq_ BK544.out); replace HB := Aside0.mk (below_at hq_ HB.out); clear hq_))
       have H := HC12.out
       clear HC12
       by_cases c16 : t557 = 0
       ·rw [if_pos c16] at H
        have c16b0 : (t557 == 0) = true := beq_iff_eq.mpr c16
        have c16b1 : (t557 != 0) = false := bne_eq_false_iff_eq.mpr c16
        clear c16
        (first | rw [c16b0] | (simp only [i64_w, i32_w]; rw [c16b0]) | skip)
        try rw [c16b1]
        simp only [Option.some.injEq, Prod.mk.injEq] at H
        obtain ⟨rfl, rfl, rfl, rfl, rfl, rfl, rfl, rfl, rfl⟩ := H
        have hcz17_0 : wr.cell? ⟨gb544, 0, none⟩ = some (.int .i64 x545000_1) := (blk_cell BK544.out 0).trans rfl
        have hcz17_1 : wr.cell? ⟨gb544, 1, none⟩ = some (.int .i64 x545001_1) := (blk_cell BK544.out 1).trans rfl
        have hcz17_2 : wr.cell? ⟨gb544, 2, none⟩ = some (.int .i64 x545002_1) := (blk_cell BK544.out 2).trans rfl
        have hcz17_3 : wr.cell? ⟨gb544, 3, none⟩ = some (.int .i64 x545003_1) := (blk_cell BK544.out 3).trans rfl
        have hcz17_4 : wr.cell? ⟨gb544, 4, none⟩ = some (.slice none 0 0) := (blk_cell BK544.out 4).trans rfl
        have hcz17_5 : wr.cell? ⟨gb544, 5, none⟩ = some (.slice none 0 0) := (blk_cell BK544.out 5).trans rfl
        have hcz17_6 : wr.cell? ⟨gb544, 6, none⟩ = some (.slice none 0 0) := (blk_cell BK544.out 6).trans rfl
        have hcz17_7 : wr.cell? ⟨gb544, 7, none⟩ = some (.int .i64 x545007_1) := (blk_cell BK544.out 7).trans rfl
        have hfz17_0 := blk_frozen BK544.out 0
        have hfz17_1 := blk_frozen BK544.out 1
        have hfz17_2 := blk_frozen BK544.out 2
        have hfz17_3 := blk_frozen BK544.out 3
        have hfz17_4 := blk_frozen BK544.out 4
        have hfz17_5 := blk_frozen BK544.out 5
        have hfz17_6 := blk_frozen BK544.out 6
        have hfz17_7 := blk_frozen BK544.out 7
        go_wp2
        refine bodyPost_ret (results_ct rfl _ _ gb544 29 #[.int .i64 0, .int .i64 0, .int .i64 0, .int .i64 0, .slice none 0 0, .slice none 0 0, .slice none 0 0, .int .i64 0] (0, 0) _ rfl Z3 Tryd.underlying29 rfl (by kernel_rfl)) rfl ?_
        exact ⟨_, _, _, J0, J5, J5, J5, J24⟩
       ·rw [if_neg c16] at H
        have c16b0 : (t557 == 0) = false := beq_eq_false_iff_ne.mpr c16
        have c16b1 : (t557 != 0) = true := bne_iff_ne.mpr c16
        (first | rw [c16b0] | (simp only [i64_w, i32_w]; rw [c16b0]) | skip)
        try rw [c16b1]
        by_cases c18 : x5_1.length < 17592186044416
        ·rw [if_pos c18] at H
         have LMc18 := Aside0.mk c18
         clear c18
         obtain ⟨y558, hy558⟩ : ∃ y_ : List Int, y_ = (x5_1 ++ [t556]) := ⟨_, rfl⟩
         replace H : (if (y558.length : Int) = 5 then (if t556 > 7 then (some (0, 0, 0, 0, ([] : List Int), ([] : List Int), ([] : List ByteArray), 0, false)) else (spec_ReadBlock.l0 k1 a0 y545 y558 (wrap64 (x6_1 + t557)) (wrap64 (5 + (wrap64 (2 * t556)))))) else (spec_ReadBlock.l0 k1 a0 y545 y558 (wrap64 (x6_1 + t557)) x7_1)) = some (r1, r2, r3, r4, r5, r6, r7, r8, r9) := by first | (rw [hy558]; with_reducible exact H) | (have H2_ := (Option.bind_some _ _).symm.trans H; rw [hy558]; with_reducible exact H2_) | (have H2_ := (Option.bind_some _ _).symm.trans H; with_reducible exact H2_) | with_reducible exact H | (rw [hy558]; exact H) | exact H
         have Ny558 := Aside0.mk hy558
         clear hy558
         have HC19 := Aside0.mk H
         clear H
         go_upto_if 42 with (first | ((with_reducible refine gate_builtin (b := .append) (xs := #[.tmp 33, .tmp 35]) rfl ?_); at_builtin; refine Kd.R_append (Kd.int .i64) (w0 := w) w.heap.size rfl (.tmp 33) (.tmp 35) 24 2 (.int .i64 0) 8 rfl Tryd.underlying24 info2 rfl (by decide) (by omega) (.slice Ao13 x5_1.length co13) x5_1 t556 [.int .i64 t556] (fun _ => True) (fun _ => False) rfl rfl ?aP (fun _ hk => hk.elim) ?aF ?aO ?aB ?aS ?aL ?_; (case aP => exact rfl); (case aB => exact Z12); (case aF => exact (fun _ _ => trivial)); (case aO => exact Z13); (case aS => exact (below_size Z12)); (case aL => have := LMc18.out; omega); intro v559 w20 ho hb hg hat; rw [← Ny558.out] at ho; replace HO_4 := Aside0.mk (Kd.V_afterv (ok := (fun k_ => k_ ≠ gb544)) J41 hg hat); replace BK544 := Aside0.mk (blk_grown (g := gb544) (o := .cells #[.int .i64 x545000_1, .int .i64 x545001_1, .int .i64 x545002_1, .int .i64 x545003_1, .slice none 0 0, .slice none 0 0, .slice none 0 0, .int .i64 x545007_1] 29 (0, 0)) Z16 hg (Kd.R_ne HO_5.out BK544.out (by decide))); replace HB := Aside0.mk (hb); have HO560 := Aside0.mk (ho); clear HO_5; clear ho hb hg hat; obtain ⟨Ao21, co21, eo21⟩ := Kd.R_slice HO560.out; subst eo21))
         (try simp only [Act.put, List.setIfInBounds_toArray, List.set_cons_zero, List.set_cons_succ])
         have H := HC19.out
         clear HC19
         by_cases c22 : (y558.length : Int) = 5
         ·rw [if_pos c22] at H
          have c22b0 : ((y558.length : Int) == 5) = true := beq_iff_eq.mpr c22
          have c22b1 : ((y558.length : Int) != 5) = false := bne_eq_false_iff_eq.mpr c22
          clear c22
          (first | rw [c22b0] | (simp only [i64_w, i32_w]; rw [c22b0]) | skip)
          try rw [c22b1]
          by_cases c23 : t556 > 7
          ·rw [if_pos c23] at H
           have c23b0 : decide (7 < t556) = true := decide_eq_true c23
           clear c23
           simp only [Option.some.injEq, Prod.mk.injEq] at H
           obtain ⟨rfl, rfl, rfl, rfl, rfl, rfl, rfl, rfl, rfl⟩ := H
           have hcz24_0 : w20.cell? ⟨gb544, 0, none⟩ = some (.int .i64 x545000_1) := (blk_cell BK544.out 0).trans rfl
           have hcz24_1 : w20.cell? ⟨gb544, 1, none⟩ = some (.int .i64 x545001_1) := (blk_cell BK544.out 1).trans rfl
           have hcz24_2 : w20.cell? ⟨gb544, 2, none⟩ = some (.int .i64 x545002_1) := (blk_cell BK544.out 2).trans rfl
           have hcz24_3 : w20.cell? ⟨gb544, 3, none⟩ = some (.int .i64 x545003_1) := (blk_cell BK544.out 3).trans rfl
           have hcz24_4 : w20.cell? ⟨gb544, 4, none⟩ = some (.slice none 0 0) := (blk_cell BK544.out 4).trans rfl
           have hcz24_5 : w20.cell? ⟨gb544, 5, none⟩ = some (.slice none 0 0) := (blk_cell BK544.out 5).trans rfl
           have hcz24_6 : w20.cell? ⟨gb544, 6, none⟩ = some (.slice none 0 0) := (blk_cell BK544.out 6).trans rfl
           have hcz24_7 : w20.cell? ⟨gb544, 7, none⟩ = some (.int .i64 x545007_1) := (blk_cell BK544.out 7).trans rfl
           have hfz24_0 := blk_frozen BK544.out 0
           have hfz24_1 := blk_frozen BK544.out 1
           have hfz24_2 := blk_frozen BK544.out 2
           have hfz24_3 := blk_frozen BK544.out 3
           have hfz24_4 := blk_frozen BK544.out 4
           have hfz24_5 := blk_frozen BK544.out 5
           have hfz24_6 := blk_frozen BK544.out 6
           have hfz24_7 := blk_frozen BK544.out 7
           go_wp2
           refine bodyPost_ret (results_ct rfl _ _ gb544 29 #[.int .i64 0, .int .i64 0, .int .i64 0, .int .i64 0, .slice none 0 0, .slice none 0 0, .slice none 0 0, .int .i64 0] (0, 0) _ rfl Z3 Tryd.underlying29 rfl (by kernel_rfl)) rfl ?_
           exact ⟨_, _, _, J0, J5, J5, J5, J24⟩
          ·rw [if_neg c23] at H
           have c23b0 : decide (7 < t556) = false := decide_eq_false c23
           clear c23
           have H' := Aside0.mk H
           clear H
           go_wp2
           go_roundg k1
           case measure => have := HK1.out; omega
           case rel => exact ⟨(y558), (wrap64 (x6_1 + t557)), (wrap64 (5 + (wrap64 (2 * t556)))), (x545000_1), (x545001_1), (x545002_1), (x545003_1), (x545007_1), Z4, Z4, H', ⟨J42⟩, ⟨J41⟩, ⟨(by (with_reducible repeat (first | apply Kd.R_alloc | apply Kd.R_drewN | apply Kd.R_drew)); exact HO560.out)⟩, ⟨J43⟩, ⟨J24⟩⟩
         ·rw [if_neg c22] at H
          have c22b0 : ((y558.length : Int) == 5) = false := beq_eq_false_iff_ne.mpr c22
          have c22b1 : ((y558.length : Int) != 5) = true := bne_iff_ne.mpr c22
          (first | rw [c22b0] | (simp only [i64_w, i32_w]; rw [c22b0]) | skip)
          try rw [c22b1]
          have H' := Aside0.mk H
          clear H
          go_wp2
          go_roundg k1
          case measure => have := HK1.out; omega
          case rel => exact ⟨(y558), (wrap64 (x6_1 + t557)), (x7_1), (x545000_1), (x545001_1), (x545002_1), (x545003_1), (x545007_1), Z4, Z4, H', ⟨J42⟩, ⟨J41⟩, ⟨(by (with_reducible repeat (first | apply Kd.R_alloc | apply Kd.R_drewN | apply Kd.R_drew)); exact HO560.out)⟩, ⟨J43⟩, ⟨J24⟩⟩
        ·rw [if_neg c18] at H
         exact absurd H (by simp)
      ·rw [if_neg c10] at H
       exact absurd H (by simp)
     ·rw [if_neg c9] at H
      exact absurd H (by simp)
    ·rw [if_neg c8] at H
     have c8b0 : decide ((x5_1.length : Int) < x7_1) = false := decide_eq_false c8
     clear c8
     by_cases c25 : 0 ≤ x6_1
     ·rw [if_pos c25] at H
      have c25b0 := eq_true c25
      have c25b1 : decide (0 ≤ x6_1) = true := decide_eq_true c25
      clear c25
      by_cases c26 : x6_1 ≤ (y545.length : Int)
      ·rw [if_pos c26] at H
       have c26b0 := eq_true c26
       have c26b1 : decide (x6_1 ≤ (y545.length : Int)) = true := decide_eq_true c26
       clear c26
       obtain ⟨y561, hy561⟩ : ∃ y_ : List Int, y_ = (y545.drop (x6_1 : Int).toNat) := ⟨_, rfl⟩
       replace H : ((spec_l1ReadTexts.f k1 y561).bind fun bt566 => (if bt566.2 = 0 then (some (0, 0, 0, 0, ([] : List Int), ([] : List Int), ([] : List ByteArray), 0, false)) else (if 0 ≤ (wrap64 (x6_1 + bt566.2)) then (if (wrap64 (x6_1 + bt566.2)) ≤ (y545.length : Int) then ((spec_ReadNumber.f k1 (y545.drop ((wrap64 (x6_1 + bt566.2)) : Int).toNat)).bind fun bt575 => (if 0 < (x5_1.length : Int) then (if 1 < (x5_1.length : Int) then (if 2 < (x5_1.length : Int) then (if 3 < (x5_1.length : Int) then (spec_ReadBlock.l1 k1 a0 x5_1 5 (rd x5_1 0) (rd x5_1 1) (rd x5_1 2) (rd x5_1 3) ([] : List Int) ([] : List Int) bt566.1 bt575.1) else (none)) else (none)) else (none)) else (none))) else (none)) else (none)))) = some (r1, r2, r3, r4, r5, r6, r7, r8, r9) := by first | (rw [hy561]; with_reducible exact H) | (have H2_ := (Option.bind_some _ _).symm.trans H; rw [hy561]; with_reducible exact H2_) | (have H2_ := (Option.bind_some _ _).symm.trans H; with_reducible exact H2_) | with_reducible exact H | (rw [hy561]; exact H) | exact H
       have Ny561 := Aside0.mk hy561
       clear hy561
       replace H := Option.bind_eq_some_iff.mp H
       obtain ⟨⟨t566, t567⟩, A270, H⟩ := H
       try dsimp only at H
       have A27 := Aside0.mk A270
       clear A270
       have HC28 := Aside0.mk H
       clear H
       obtain ⟨Ao29, co29, eo29⟩ := Kd.R_slice HO_5.out
       subst eo29
       obtain ⟨Ao31, co31, eo31⟩ := Kd.V_slice HO_4.out
       subst eo31
       have q30 : (x6_1 : Int) ≤ ((y545.length : Int) : Int) := od_
       obtain ⟨i030, hi030, _, hsz30, _⟩ := info_parts info5
       have hroom30 : y545.length ≤ co31 := (Kd.V_reads' HO_4.out).2.1
       have hC30 : Kd.F (Kd.int .u8) _ _ Ao31 y545.length y545 := (Kd.V_at (base := w.heap.size) HO_4.out).2.2
       have q030 : (0 : Int) ≤ (x6_1 : Int) := od_
       have hcut30 := cut_from (P := Tryd.prog) 22 5 .i64 Tryd.underlying22 hi030 1 hsz30 Ao31 y545.length co31 x6_1 q030 q30
       have hr30 := Kd.F_cut (m := (x6_1 : Int).toNat) (c := co31) hC30 (by omega) hroom30
       obtain ⟨A30, hA30⟩ : ∃ A1, A1 = (if co31 = (x6_1 : Int).toNat then Ao31 else (Ao31 : Option Addr).map (·.add ((x6_1 : Int).toNat * 1))) := ⟨_, rfl⟩
       obtain ⟨c30, hc30⟩ : ∃ c1, c1 = co31 - (x6_1 : Int).toNat := ⟨_, rfl⟩
       have hy30 : y561.length = y545.length - (x6_1 : Int).toNat := (by rw [Ny561.out, List.length_drop] <;> omega)
       rw [show (y545).drop (x6_1 : Int).toNat = y561 from Ny561.out.symm] at hr30
       replace hr30 : Kd.F (Kd.int .u8) _ _ A30 y561.length y561 := (by rw [hA30]; exact hr30)
       rw [← hy30, ← hA30, ← hc30] at hcut30
       have HO565 := Aside0.mk (show Kd.V (Kd.int .u8) 5 _ w.heap.size _ (.slice A30 y561.length c30) y561 from Kd.V_mk (by rw [hy30, hc30]; exact Nat.sub_le_sub_right hroom30 _) hr30)
       have HC565 := Aside0.mk (show y561.length ≤ c30 from (by rw [hy30, hc30]; exact Nat.sub_le_sub_right hroom30 _))
       clear hr30 hC30 hroom30 hi030 hsz30 hc30
       have KY30 := Aside0.mk hy30
       have KA30 := Aside0.mk hA30
       clear hy30 hA30
       replace q30 := eq_true q30
       go_upto_if 57 with (first | ((with_reducible refine gate_callee (f := 29) rfl ?_); refine goesL_ (some 53) rfl rfl Tryd.func29 (by kernel_rfl) rfl #[.slice A30 y561.length c30] rfl Z2 ?_; (with_reducible refine (spec_l1ReadTexts.calls k1 _ _ y561 t566 t567 _ ?side1 ?side2 A27.out).mono ?_); (case side1 => exact (by repeat (first | exact (Kd.V_reads' HO565.out).2.2 | (with_reducible refine Kd.C_alloc ?_ _) | (with_reducible refine Kd.C_drewN ?_ _) | (with_reducible refine Kd.C_drew ?_)))); (case side2 => exact (Kd.V_reads' HO565.out).2.1); rintro e w32 ⟨v568, rfl, ho0, hb⟩; refine ⟨_, rfl, ?_⟩; replace HO_4 := Aside0.mk (Kd.V_elder' (by (with_reducible repeat (first | apply Kd.V_alloc | apply Kd.V_drewN | apply Kd.V_drew)); exact HO_4.out) (Kd.R_base ho0) hb); replace HO_5 := Aside0.mk (Kd.R_below Z13 hb); replace HO565 := Aside0.mk (Kd.V_elder' (by (with_reducible repeat (first | apply Kd.V_alloc | apply Kd.V_drewN | apply Kd.V_drew)); exact HO565.out) (Kd.R_base ho0) hb); have HO569 := Aside0.mk (Kd.R_lower ho0 (below_size Z12)); replace BK544 := Aside0.mk (blk_below (g := gb544) (o := .cells #[.int .i64 x545000_1, .int .i64 x545001_1, .int .i64 x545002_1, .int .i64 x545003_1, .slice none 0 0, .slice none 0 0, .slice none 0 0, .int .i64 x545007_1] 29 (0, 0)) Z16 hb); replace HB := Aside0.mk (below_step Z12 hb); (try clear hb); (try clear hb2); (try clear hk); (try clear hi); (try clear ho0)))
       (try simp only [Act.put, List.setIfInBounds_toArray, List.set_cons_zero, List.set_cons_succ])
       have H := HC28.out
       clear HC28
       by_cases c33 : t567 = 0
       ·rw [if_pos c33] at H
        have c33b0 : (t567 == 0) = true := beq_iff_eq.mpr c33
        have c33b1 : (t567 != 0) = false := bne_eq_false_iff_eq.mpr c33
        clear c33
        (first | rw [c33b0] | (simp only [i64_w, i32_w]; rw [c33b0]) | skip)
        try rw [c33b1]
        simp only [Option.some.injEq, Prod.mk.injEq] at H
        obtain ⟨rfl, rfl, rfl, rfl, rfl, rfl, rfl, rfl, rfl⟩ := H
        have hcz34_0 : w32.cell? ⟨gb544, 0, none⟩ = some (.int .i64 x545000_1) := (blk_cell BK544.out 0).trans rfl
        have hcz34_1 : w32.cell? ⟨gb544, 1, none⟩ = some (.int .i64 x545001_1) := (blk_cell BK544.out 1).trans rfl
        have hcz34_2 : w32.cell? ⟨gb544, 2, none⟩ = some (.int .i64 x545002_1) := (blk_cell BK544.out 2).trans rfl
        have hcz34_3 : w32.cell? ⟨gb544, 3, none⟩ = some (.int .i64 x545003_1) := (blk_cell BK544.out 3).trans rfl
        have hcz34_4 : w32.cell? ⟨gb544, 4, none⟩ = some (.slice none 0 0) := (blk_cell BK544.out 4).trans rfl
        have hcz34_5 : w32.cell? ⟨gb544, 5, none⟩ = some (.slice none 0 0) := (blk_cell BK544.out 5).trans rfl
        have hcz34_6 : w32.cell? ⟨gb544, 6, none⟩ = some (.slice none 0 0) := (blk_cell BK544.out 6).trans rfl
        have hcz34_7 : w32.cell? ⟨gb544, 7, none⟩ = some (.int .i64 x545007_1) := (blk_cell BK544.out 7).trans rfl
        have hfz34_0 := blk_frozen BK544.out 0
        have hfz34_1 := blk_frozen BK544.out 1
        have hfz34_2 := blk_frozen BK544.out 2
        have hfz34_3 := blk_frozen BK544.out 3
        have hfz34_4 := blk_frozen BK544.out 4
        have hfz34_5 := blk_frozen BK544.out 5
        have hfz34_6 := blk_frozen BK544.out 6
        have hfz34_7 := blk_frozen BK544.out 7
        go_wp2
        refine bodyPost_ret (results_ct rfl _ _ gb544 29 #[.int .i64 0, .int .i64 0, .int .i64 0, .int .i64 0, .slice none 0 0, .slice none 0 0, .slice none 0 0, .int .i64 0] (0, 0) _ rfl Z3 Tryd.underlying29 rfl (by kernel_rfl)) rfl ?_
        exact ⟨_, _, _, J0, J5, J5, J5, J24⟩
       ·rw [if_neg c33] at H
        have c33b0 : (t567 == 0) = false := beq_eq_false_iff_ne.mpr c33
        have c33b1 : (t567 != 0) = true := bne_iff_ne.mpr c33
        (first | rw [c33b0] | (simp only [i64_w, i32_w]; rw [c33b0]) | skip)
        try rw [c33b1]
        obtain ⟨ji35, hji35⟩ : ∃ j_ : Int, (wrap64 (x6_1 + t567)) = j_ := ⟨_, rfl⟩
        replace H : (if 0 ≤ (ji35) then (if (ji35) ≤ (y545.length : Int) then ((spec_ReadNumber.f k1 (y545.drop ((ji35) : Int).toNat)).bind fun bt575 => (if 0 < (x5_1.length : Int) then (if 1 < (x5_1.length : Int) then (if 2 < (x5_1.length : Int) then (if 3 < (x5_1.length : Int) then (spec_ReadBlock.l1 k1 a0 x5_1 5 (rd x5_1 0) (rd x5_1 1) (rd x5_1 2) (rd x5_1 3) ([] : List Int) ([] : List Int) t566 bt575.1) else (none)) else (none)) else (none)) else (none))) else (none)) else (none)) = some (r1, r2, r3, r4, r5, r6, r7, r8, r9) := by first | (rw [hji35] at H; exact H) | (simp only [hji35] at H ⊢; exact H)
        have hji35w : (IntKind.i64.wrap (x6_1 + t567)) = ji35 := (i64_w _).trans hji35
        by_cases c36 : 0 ≤ (ji35)
        ·rw [if_pos c36] at H
         have c36b0 := eq_true c36
         have c36b1 : decide (0 ≤ (ji35)) = true := decide_eq_true c36
         clear c36
         by_cases c37 : (ji35) ≤ (y545.length : Int)
         ·rw [if_pos c37] at H
          have c37b0 := eq_true c37
          have c37b1 : decide ((ji35) ≤ (y545.length : Int)) = true := decide_eq_true c37
          clear c37
          obtain ⟨y570, hy570⟩ : ∃ y_ : List Int, y_ = (y545.drop ((ji35) : Int).toNat) := ⟨_, rfl⟩
          replace H : ((spec_ReadNumber.f k1 y570).bind fun bt575 => (if 0 < (x5_1.length : Int) then (if 1 < (x5_1.length : Int) then (if 2 < (x5_1.length : Int) then (if 3 < (x5_1.length : Int) then (spec_ReadBlock.l1 k1 a0 x5_1 5 (rd x5_1 0) (rd x5_1 1) (rd x5_1 2) (rd x5_1 3) ([] : List Int) ([] : List Int) t566 bt575.1) else (none)) else (none)) else (none)) else (none))) = some (r1, r2, r3, r4, r5, r6, r7, r8, r9) := by first | (rw [hy570]; with_reducible exact H) | (have H2_ := (Option.bind_some _ _).symm.trans H; rw [hy570]; with_reducible exact H2_) | (have H2_ := (Option.bind_some _ _).symm.trans H; with_reducible exact H2_) | with_reducible exact H | (rw [hy570]; exact H) | exact H
          have Ny570 := Aside0.mk hy570
          clear hy570
          replace H := Option.bind_eq_some_iff.mp H
          obtain ⟨⟨t575, t576⟩, A380, H⟩ := H
          try dsimp only at H
          have A38 := Aside0.mk A380
          clear A380
          by_cases c39 : 0 < (x5_1.length : Int)
          ·rw [if_pos c39] at H
           have c39b0 : decide (0 < (x5_1.length : Int)) = true := decide_eq_true c39
           have c39b1 : decide (0 < x5_1.length) = true := decide_eq_true (by omega)
           clear c39
           by_cases c40 : 1 < (x5_1.length : Int)
           ·rw [if_pos c40] at H
            have c40b0 : decide (1 < (x5_1.length : Int)) = true := decide_eq_true c40
            have c40b1 : decide (1 < x5_1.length) = true := decide_eq_true (by omega)
            clear c40
            by_cases c41 : 2 < (x5_1.length : Int)
            ·rw [if_pos c41] at H
             have c41b0 : decide (2 < (x5_1.length : Int)) = true := decide_eq_true c41
             have c41b1 : decide (2 < x5_1.length) = true := decide_eq_true (by omega)
             clear c41
             by_cases c42 : 3 < (x5_1.length : Int)
             ·rw [if_pos c42] at H
              have c42b0 : decide (3 < (x5_1.length : Int)) = true := decide_eq_true c42
              have c42b1 : decide (3 < x5_1.length) = true := decide_eq_true (by omega)
              clear c42
              have H' := Aside0.mk H
              clear H
              have q43 : ((ji35) : Int) ≤ ((y545.length : Int) : Int) := od_
              obtain ⟨i043, hi043, _, hsz43, _⟩ := info_parts info5
              have hroom43 : y545.length ≤ co31 := (Kd.V_reads' HO_4.out).2.1
              have hC43 : Kd.F (Kd.int .u8) _ _ Ao31 y545.length y545 := (Kd.V_at (base := w.heap.size) HO_4.out).2.2
              have q043 : (0 : Int) ≤ ((ji35) : Int) := od_
              have hcut43 := cut_from (P := Tryd.prog) 22 5 .i64 Tryd.underlying22 hi043 1 hsz43 Ao31 y545.length co31 (ji35) q043 q43
              have hr43 := Kd.F_cut (m := ((ji35) : Int).toNat) (c := co31) hC43 (by omega) hroom43
              obtain ⟨A43, hA43⟩ : ∃ A1, A1 = (if co31 = ((ji35) : Int).toNat then Ao31 else (Ao31 : Option Addr).map (·.add (((ji35) : Int).toNat * 1))) := ⟨_, rfl⟩
              obtain ⟨c43, hc43⟩ : ∃ c1, c1 = co31 - ((ji35) : Int).toNat := ⟨_, rfl⟩
              have hy43 : y570.length = y545.length - ((ji35) : Int).toNat := (by rw [Ny570.out, List.length_drop] <;> omega)
              rw [show (y545).drop ((ji35) : Int).toNat = y570 from Ny570.out.symm] at hr43
              replace hr43 : Kd.F (Kd.int .u8) _ _ A43 y570.length y570 := (by rw [hA43]; exact hr43)
              rw [← hy43, ← hA43, ← hc43] at hcut43
              have HO574 := Aside0.mk (show Kd.V (Kd.int .u8) 5 _ w.heap.size _ (.slice A43 y570.length c43) y570 from Kd.V_mk (by rw [hy43, hc43]; exact Nat.sub_le_sub_right hroom43 _) hr43)
              have HC574 := Aside0.mk (show y570.length ≤ c43 from (by rw [hy43, hc43]; exact Nat.sub_le_sub_right hroom43 _))
              clear hr43 hC43 hroom43 hi043 hsz43 hc43
              have KY43 := Aside0.mk hy43
              have KA43 := Aside0.mk hA43
              clear hy43 hA43
              replace q43 := eq_true q43
              try go_wp2_with (first | ((with_reducible refine gate_callee (f := 28) rfl ?_); refine goesL_ (some 66) rfl rfl Tryd.func28 (by kernel_rfl) rfl #[.slice A43 y570.length c43] rfl Z2 ?_; (with_reducible refine (spec_ReadNumber.calls k1 _ _ y570 t575 t576 _ ?side1 ?side2 A38.out).mono ?_); (case side1 => exact (by repeat (first | exact (Kd.V_reads' HO574.out).2.2 | (with_reducible refine Kd.C_alloc ?_ _) | (with_reducible refine Kd.C_drewN ?_ _) | (with_reducible refine Kd.C_drew ?_)))); (case side2 => exact (Kd.V_reads' HO574.out).2.1); rintro e w' ⟨rfl, ⟨nd, rfl⟩⟩; refine ⟨_, rfl, ?_⟩; (try (rw [drewN_self w32]; generalize hq_ : World.drewN w32 _ = w32; have n0_ : Aside0 (Kd.V (Kd.int .u8) 5 w32 w.heap.size (fun k_ => some k_ ≠ (v568 : Value).ownBlock ∧ some k_ ≠ (.slice Ao29 x5_1.length co29 : Value).ownBlock ∧ k_ ≠ gb544) (.slice A30 y561.length c30) y561) := ⟨(by rw [← hq_]; exact (by (with_reducible repeat (first | apply Kd.V_alloc | apply Kd.V_drewN | apply Kd.V_drew)); exact Kd.V_mono HO565.out (fun _ hk => ⟨hk.2, ⟨hk.1.1, hk.1.2⟩⟩)))⟩; have n1_ : Aside0 (Kd.R Kd.string 9 w32 w.heap.size (fun _ => True) v568 t566) := ⟨(by rw [← hq_]; exact (by (with_reducible repeat (first | apply Kd.R_alloc | apply Kd.R_drewN | apply Kd.R_drew)); exact HO569.out))⟩; have n2_ : Aside0 (Kd.V (Kd.int .u8) 5 w32 w.heap.size (fun k_ => some k_ ≠ (v568 : Value).ownBlock ∧ some k_ ≠ (.slice Ao29 x5_1.length co29 : Value).ownBlock ∧ k_ ≠ gb544) (.slice A43 y570.length c43) y570) := ⟨(by rw [← hq_]; exact (by (with_reducible repeat (first | apply Kd.V_alloc | apply Kd.V_drewN | apply Kd.V_drew)); exact Kd.V_mono HO574.out (fun _ hk => ⟨hk.2, ⟨hk.1.1, hk.1.2⟩⟩)))⟩; have n3_ : Aside0 (Kd.V (Kd.int .u8) 5 w32 w.heap.size (fun k_ => some k_ ≠ (v568 : Value).ownBlock ∧ some k_ ≠ (.slice Ao29 x5_1.length co29 : Value).ownBlock ∧ k_ ≠ gb544) (.slice Ao31 y545.length co31) y545) := ⟨(by rw [← hq_]; exact (by (with_reducible repeat (first | apply Kd.V_alloc | apply Kd.V_drewN | apply Kd.V_drew)); exact Kd.V_mono HO_4.out (fun _ hk => ⟨hk.2, ⟨hk.1.1, hk.1.2⟩⟩)))⟩; have n4_ : Aside0 (Kd.R (Kd.int .i64) 2 w32 w.heap.size (fun _ => True) (.slice Ao29 x5_1.length co29) x5_1) := ⟨(by rw [← hq_]; exact Z13)⟩; have n5_ : Aside0 (w32.heap[gb544]? = some (.cells #[.int .i64 x545000_1, .int .i64 x545001_1, .int .i64 x545002_1, .int .i64 x545003_1, .slice none 0 0, .slice none 0 0, .slice none 0 0, .int .i64 x545007_1] 29 (0, 0))) := ⟨(by rw [← hq_]; exact Z16)⟩; have n6_ : Aside0 (Below w.heap.size w w32) := ⟨(by rw [← hq_]; exact Z12)⟩; clear HO565 HO569 HO574 HO_4 HO_5 BK544 HB hq_; have HO565 := n0_; have HO569 := n1_; have HO574 := n2_; have HO_4 := n3_; have HO_5 := n4_; have BK544 := n5_; have HB := n6_; clear n0_ n1_ n2_ n3_ n4_ n5_ n6_))))
              replace HO_4 := Aside0.mk (Kd.V_drew HO_4.out)
              replace HO_5 := Aside0.mk (Kd.R_drew HO_5.out)
              replace HO565 := Aside0.mk (Kd.V_drew HO565.out)
              replace HO569 := Aside0.mk (Kd.R_drew HO569.out)
              replace HO574 := Aside0.mk (Kd.V_drew HO574.out)
              replace BK544 := Aside0.mk (blk_drew BK544.out)
              replace HB := Aside0.mk (below_drew1 HB.out)
              have p577 : 0 ≤ (0 : Int) := (by omega)
              have q577 : 0 < (x5_1.length : Int) := od_
              obtain ⟨ad577, e577, hx577_0⟩ := Kd.at_int (Kd.R_reads' HO_5.out).2.2 0 p577 q577
              cases e577
              have qi577 : (0 < x5_1.length) = True := eq_true (by omega)
              (try rw [show ((0 : Int)).toNat = 0 from rfl] at hx577_0)
              (try rw [Addr.add_zero'] at hx577_0)
              replace p577 := eq_true p577
              replace q577 := eq_true q577
              have p578 : 0 ≤ (1 : Int) := (by omega)
              have q578 : 1 < (x5_1.length : Int) := od_
              obtain ⟨ad578, e578, hx578_0⟩ := Kd.at_int (Kd.R_reads' HO_5.out).2.2 1 p578 q578
              obtain rfl : ad577 = ad578 := (by injection e578)
              (try simp only [show (1 : Int).toNat = 1 from rfl, Nat.reduceMul, Nat.reduceEqDiff, Go.Addr.add, ↓reduceIte] at hx578_0)
              have qi578 : (1 < x5_1.length) = True := eq_true (by omega)
              (try rw [show ((1 : Int)).toNat = 1 from rfl] at hx578_0)
              replace p578 := eq_true p578
              replace q578 := eq_true q578
              have p579 : 0 ≤ (2 : Int) := (by omega)
              have q579 : 2 < (x5_1.length : Int) := od_
              obtain ⟨ad579, e579, hx579_0⟩ := Kd.at_int (Kd.R_reads' HO_5.out).2.2 2 p579 q579
              obtain rfl : ad577 = ad579 := (by injection e579)
              (try simp only [show (2 : Int).toNat = 2 from rfl, Nat.reduceMul, Nat.reduceEqDiff, Go.Addr.add, ↓reduceIte] at hx579_0)
              have qi579 : (2 < x5_1.length) = True := eq_true (by omega)
              (try rw [show ((2 : Int)).toNat = 2 from rfl] at hx579_0)
              replace p579 := eq_true p579
              replace q579 := eq_true q579
              have p580 : 0 ≤ (3 : Int) := (by omega)
              have q580 : 3 < (x5_1.length : Int) := od_
              obtain ⟨ad580, e580, hx580_0⟩ := Kd.at_int (Kd.R_reads' HO_5.out).2.2 3 p580 q580
              obtain rfl : ad577 = ad580 := (by injection e580)
              (try simp only [show (3 : Int).toNat = 3 from rfl, Nat.reduceMul, Nat.reduceEqDiff, Go.Addr.add, ↓reduceIte] at hx580_0)
              have qi580 : (3 < x5_1.length) = True := eq_true (by omega)
              (try rw [show ((3 : Int)).toNat = 3 from rfl] at hx580_0)
              replace p580 := eq_true p580
              replace q580 := eq_true q580
              obtain ⟨Ao45, co45, eo45⟩ := Kd.R_slice HO569.out
              (first | subst eo45 | (injection eo45 with f1_ f2_ f3_; have f4_ := f1_.symm; have f5_ := f3_.symm; clear f1_ f2_ f3_; subst f4_; subst f5_))
              refine start_ (n := 18) (S := fun w' => w'.cell? ad577 = some (.int .i64 (rd x5_1 0)) ∧ w'.cell? ⟨ad577.block, ad577.off + 1, none⟩ = some (.int .i64 (rd x5_1 1)) ∧ w'.cell? ⟨ad577.block, ad577.off + 2, none⟩ = some (.int .i64 (rd x5_1 2)) ∧ w'.cell? ⟨ad577.block, ad577.off + 3, none⟩ = some (.int .i64 (rd x5_1 3))) (ds := []) (bA 18 0) (by kernel_rfl) rfl rfl ⟨hx577_0, hx578_0, hx579_0, hx580_0⟩ (fun hHeld => ?_); refine with_tabW spec_ReadBlock.tab20 spec_ReadBlock.bits20 (fun HT_ HW_ => ?_)
              generalize w32.drew = w44 at HO_4 HO_5 HO565 HO569 HO574 BK544 HB hx577_0 hx578_0 hx579_0 hx580_0 hHeld ⊢
              refine pv (i := 0) (N := some 69) (bA 18 1) rfl rfl J13 ?_
              refine pv (i := 1) (N := some 70) (bA 18 3) rfl rfl J13 ?_
              refine pv (i := 3) (N := some 72) (bA 18 11) rfl rfl J13 ?_
              refine pv (i := 4) (N := some 73) (bA 18 27) rfl rfl J13 ?_
              refine pv (i := 6) (N := some 75) (bA 18 91) rfl rfl J13 ?_
              refine pv (i := 7) (N := some 76) (bA 18 219) rfl rfl J13 ?_
              refine pv (i := 9) (N := some 78) (bA 18 731) rfl rfl J13 ?_
              refine pv (i := 10) (N := some 79) (bA 18 1755) rfl rfl J13 ?_
              refine pv (i := 13) (N := some 82) (bA 18 9947) rfl rfl J13 ?_
              refine pv (i := 14) (N := some 83) (bA 18 26331) rfl rfl J13 ?_
              refine take_ (i := 2) (N := some 71) (v := ?_) (a' := ?_) (bA 18 26335) rfl rfl J28 (fun _ _ _ h => h) (Or.inl ⟨(by rfl), ?_⟩) hHeld ?_ ?_
              rotate_left
              ·rintro w' ⟨s0, s1, s2, s3⟩
               go_simp
               with_reducible rfl
              rotate_left
              ·simp only [sp_]
               rfl
              refine take_ (i := 5) (N := some 74) (v := ?_) (a' := ?_) (bA 18 26367) rfl rfl J28 (fun _ _ _ h => h) (Or.inl ⟨(by rfl), ?_⟩) hHeld ?_ ?_
              rotate_left
              ·rintro w' ⟨s0, s1, s2, s3⟩
               go_simp
               with_reducible rfl
              rotate_left
              ·simp only [sp_]
               rfl
              refine take_ (i := 8) (N := some 77) (v := ?_) (a' := ?_) (bA 18 26623) rfl rfl J28 (fun _ _ _ h => h) (Or.inl ⟨(by rfl), ?_⟩) hHeld ?_ ?_
              rotate_left
              ·rintro w' ⟨s0, s1, s2, s3⟩
               go_simp
               with_reducible rfl
              rotate_left
              ·simp only [sp_]
               rfl
              refine take_ (i := 11) (N := some 80) (v := ?_) (a' := ?_) (bA 18 28671) rfl rfl J28 (fun _ _ _ h => h) (Or.inl ⟨(by rfl), ?_⟩) hHeld ?_ ?_
              rotate_left
              ·rintro w' ⟨s0, s1, s2, s3⟩
               go_simp
               with_reducible rfl
              rotate_left
              ·simp only [sp_]
               rfl
              refine pv (i := 12) (N := some 81) (bA 18 32767) rfl rfl J13 ?_
              refine pv (i := 15) (N := some 84) (bA 18 65535) rfl rfl J13 ?_
              refine one_ (i := 16) (N := some 14) (bA 18 131071) rfl rfl (one_of HT_.out (by kernel_rfl)) (by decide) (fun K hK => ?_)
              refine box_step ?hg (N := 14) ?hd (cs := #[.int .i64 0, .int .i64 0, .int .i64 0, .int .i64 0, .slice none 0 0, .slice none 0 0, .slice none 0 0, .int .i64 0]) (t := 29) ?hr ?_; (case hd => rfl); (case hg => rfl); (case hr => first | (go_simp; done) | (go_simp; rfl))
              intro gb581 hg w46 hbox hb
              have HS0_ := (hb.cell (World.block_lt_of_cell? _ _ (hHeld.1))).trans (hHeld.1)
              have HS1_ := (hb.cell (World.block_lt_of_cell? _ _ (hHeld.2.1))).trans (hHeld.2.1)
              have HS2_ := (hb.cell (World.block_lt_of_cell? _ _ (hHeld.2.2.1))).trans (hHeld.2.2.1)
              have HS3_ := (hb.cell (World.block_lt_of_cell? _ _ (hHeld.2.2.2))).trans (hHeld.2.2.2)
              replace HO_4 := Aside0.mk (Kd.V_below (Kd.V_elderB (by (with_reducible repeat (first | apply Kd.V_alloc | apply Kd.V_drewN | apply Kd.V_drew)); exact HO_4.out) gb581 (Nat.le_of_eq hg.symm)) hb)
              replace HO_5 := Aside0.mk (Kd.R_below Z13 hb)
              replace HO565 := Aside0.mk (Kd.V_below (Kd.V_elderB (by (with_reducible repeat (first | apply Kd.V_alloc | apply Kd.V_drewN | apply Kd.V_drew)); exact HO565.out) gb581 (Nat.le_of_eq hg.symm)) hb)
              replace HO569 := Aside0.mk (Kd.R_below (by (with_reducible repeat (first | apply Kd.R_alloc | apply Kd.R_drewN | apply Kd.R_drew)); exact HO569.out) hb)
              replace HO574 := Aside0.mk (Kd.V_below (Kd.V_elderB (by (with_reducible repeat (first | apply Kd.V_alloc | apply Kd.V_drewN | apply Kd.V_drew)); exact HO574.out) gb581 (Nat.le_of_eq hg.symm)) hb)
              have BK581 := Aside0.mk (hbox)
              have GW581 := Aside0.mk ((by rw [hg]; exact (below_size Z12) : w.heap.size ≤ gb581))
              have GE581 := Aside0.mk ((by rw [hg]; exact (below_size Z12) : w.heap.size ≤ gb581))
              replace HB := Aside0.mk (below_step Z12 hb)
              have NB544_581 := Aside0.mk ((by rw [hg]; exact Nat.ne_of_lt (blk_lt (g := gb544) (o := .cells #[.int .i64 x545000_1, .int .i64 x545001_1, .int .i64 x545002_1, .int .i64 x545003_1, .slice none 0 0, .slice none 0 0, .slice none 0 0, .int .i64 x545007_1] 29 (0, 0)) Z16) : gb544 ≠ gb581))
              have NB581_544 := Aside0.mk ((by rw [hg]; exact Nat.ne_of_gt (blk_lt (g := gb544) (o := .cells #[.int .i64 x545000_1, .int .i64 x545001_1, .int .i64 x545002_1, .int .i64 x545003_1, .slice none 0 0, .slice none 0 0, .slice none 0 0, .int .i64 x545007_1] 29 (0, 0)) Z16) : gb581 ≠ gb544))
              replace BK544 := Aside0.mk (blk_below (g := gb544) (o := .cells #[.int .i64 x545000_1, .int .i64 x545001_1, .int .i64 x545002_1, .int .i64 x545003_1, .slice none 0 0, .slice none 0 0, .slice none 0 0, .int .i64 x545007_1] 29 (0, 0)) Z16 hb)
              clear hb hbox hg
              refine hK.out _ _ ⟨HS0_, HS1_, HS2_, HS3_⟩ (fun hHeld => ?_)
              clear hK K
              refine norm_ (a' := ?_) ?_ ?_
              rotate_left
              ·show Act.put _ (some 14) _ = _
               simp only [sp_]
               rfl
              refine one_ (i := 17) (N := none) (bA 18 262143) rfl rfl (one_of HT_.out (by kernel_rfl)) (by decide) (fun K hK => ?_)
              have hs47 : w46.cell? ⟨gb581, 0, none⟩ = some (.int .i64 0) := (blk_cell BK581.out 0).trans rfl
              have hfs47 := blk_frozen BK581.out 0
              have hns47_0 := NB544_581.out
              have hms47_0 := NB581_544.out
              have hs48 : w46.cell? ⟨gb581, 1, none⟩ = some (.int .i64 0) := (blk_cell BK581.out 1).trans rfl
              have hfs48 := blk_frozen BK581.out 1
              have hns48_0 := NB544_581.out
              have hms48_0 := NB581_544.out
              have hs49 : w46.cell? ⟨gb581, 2, none⟩ = some (.int .i64 0) := (blk_cell BK581.out 2).trans rfl
              have hfs49 := blk_frozen BK581.out 2
              have hns49_0 := NB544_581.out
              have hms49_0 := NB581_544.out
              have hs50 : w46.cell? ⟨gb581, 3, none⟩ = some (.int .i64 0) := (blk_cell BK581.out 3).trans rfl
              have hfs50 := blk_frozen BK581.out 3
              have hns50_0 := NB544_581.out
              have hms50_0 := NB581_544.out
              have hs51 : w46.cell? ⟨gb581, 4, none⟩ = some (.slice none 0 0) := (blk_cell BK581.out 4).trans rfl
              have hfs51 := blk_frozen BK581.out 4
              have hns51_0 := NB544_581.out
              have hms51_0 := NB581_544.out
              have hs52 : w46.cell? ⟨gb581, 5, none⟩ = some (.slice none 0 0) := (blk_cell BK581.out 5).trans rfl
              have hfs52 := blk_frozen BK581.out 5
              have hns52_0 := NB544_581.out
              have hms52_0 := NB581_544.out
              have hs53 : w46.cell? ⟨gb581, 6, none⟩ = some (.slice none 0 0) := (blk_cell BK581.out 6).trans rfl
              have hfs53 := blk_frozen BK581.out 6
              have hns53_0 := NB544_581.out
              have hms53_0 := NB581_544.out
              have hs54 : w46.cell? ⟨gb581, 7, none⟩ = some (.int .i64 0) := (blk_cell BK581.out 7).trans rfl
              have hfs54 := blk_frozen BK581.out 7
              have hns54_0 := NB544_581.out
              have hms54_0 := NB581_544.out
              refine skip_ (w1 := ?_) (by rfl) rfl ?_ ?_
              rotate_left
              ·go_simp
               rfl
              refine hK.out _ _ ⟨((cell_far (p := ⟨gb581, _, none⟩) Z1 _).trans (((cell_far (p := ⟨gb581, _, none⟩) Z1 _).trans (((cell_far (p := ⟨gb581, _, none⟩) Z1 _).trans (((cell_far (p := ⟨gb581, _, none⟩) Z1 _).trans (((cell_far (p := ⟨gb581, _, none⟩) Z1 _).trans (((cell_far (p := ⟨gb581, _, none⟩) Z1 _).trans (((cell_far (p := ⟨gb581, _, none⟩) Z1 _).trans (((cell_far (p := ⟨gb581, _, none⟩) Z1 _).trans (hHeld.1)))))))))))))))), ((cell_far (p := ⟨gb581, _, none⟩) Z1 _).trans (((cell_far (p := ⟨gb581, _, none⟩) Z1 _).trans (((cell_far (p := ⟨gb581, _, none⟩) Z1 _).trans (((cell_far (p := ⟨gb581, _, none⟩) Z1 _).trans (((cell_far (p := ⟨gb581, _, none⟩) Z1 _).trans (((cell_far (p := ⟨gb581, _, none⟩) Z1 _).trans (((cell_far (p := ⟨gb581, _, none⟩) Z1 _).trans (((cell_far (p := ⟨gb581, _, none⟩) Z1 _).trans (hHeld.2.1)))))))))))))))), ((cell_far (p := ⟨gb581, _, none⟩) Z1 _).trans (((cell_far (p := ⟨gb581, _, none⟩) Z1 _).trans (((cell_far (p := ⟨gb581, _, none⟩) Z1 _).trans (((cell_far (p := ⟨gb581, _, none⟩) Z1 _).trans (((cell_far (p := ⟨gb581, _, none⟩) Z1 _).trans (((cell_far (p := ⟨gb581, _, none⟩) Z1 _).trans (((cell_far (p := ⟨gb581, _, none⟩) Z1 _).trans (((cell_far (p := ⟨gb581, _, none⟩) Z1 _).trans (hHeld.2.2.1)))))))))))))))), ((cell_far (p := ⟨gb581, _, none⟩) Z1 _).trans (((cell_far (p := ⟨gb581, _, none⟩) Z1 _).trans (((cell_far (p := ⟨gb581, _, none⟩) Z1 _).trans (((cell_far (p := ⟨gb581, _, none⟩) Z1 _).trans (((cell_far (p := ⟨gb581, _, none⟩) Z1 _).trans (((cell_far (p := ⟨gb581, _, none⟩) Z1 _).trans (((cell_far (p := ⟨gb581, _, none⟩) Z1 _).trans (((cell_far (p := ⟨gb581, _, none⟩) Z1 _).trans (hHeld.2.2.2))))))))))))))))⟩ (fun hHeld => ?_)
              clear hK K
              refine done_ (done_of HT_.out (by kernel_rfl)) ?_
              try go_wp2
              go_loopg [15] k1 (fun kq v15 w' => ∃ (x15_2 : Int) (x582004_2 : List Int) (x582005_2 : List Int) (u582004 : Value) (u582005 : Value), v15 = .int .i64 x15_2 ∧ Aside0 (spec_ReadBlock.l1 kq a0 x5_1 x15_2 (rd x5_1 0) (rd x5_1 1) (rd x5_1 2) (rd x5_1 3) x582004_2 x582005_2 t566 t575 = some (r1, r2, r3, r4, r5, r6, r7, r8, r9)) ∧ Aside0 (kq ≤ k1) ∧ Aside0 (Kd.R (Kd.int .i64) 2 w' w.heap.size (fun k_ => some k_ ≠ (u582004 : Value).ownBlock ∧ some k_ ≠ (u582005 : Value).ownBlock) (.slice (some ad577) x5_1.length co29) x5_1) ∧ Aside0 (Kd.R (Kd.int .i64) 2 w' w.heap.size (fun k_ => some k_ ≠ ((.slice (some ad577) x5_1.length co29) : Value).ownBlock ∧ some k_ ≠ (u582005 : Value).ownBlock) u582004 x582004_2) ∧ Aside0 (Kd.R (Kd.int .i64) 2 w' w.heap.size (fun k_ => some k_ ≠ ((.slice (some ad577) x5_1.length co29) : Value).ownBlock ∧ some k_ ≠ (u582004 : Value).ownBlock) u582005 x582005_2) ∧ Aside0 (Kd.R Kd.string 9 w' w.heap.size (fun _ => True) (.slice Ao45 t566.length co45) t566) ∧ Aside0 (w'.heap[gb544]? = some (.cells #[.int .i64 x545000_1, .int .i64 x545001_1, .int .i64 x545002_1, .int .i64 x545003_1, (.slice none 0 0), (.slice none 0 0), (.slice none 0 0), .int .i64 x545007_1] 29 (0, 0))) ∧ Aside0 (w'.heap[gb581]? = some (.cells #[.int .i64 (rd x5_1 0), .int .i64 (rd x5_1 1), .int .i64 (rd x5_1 2), .int .i64 (rd x5_1 3), u582004, u582005, (.slice Ao45 t566.length co45), .int .i64 t575] 29 (0, 0))) ∧ Aside0 (Below w.heap.size w w'))
              case atStart => exact ⟨(5), (([] : List Int)), (([] : List Int)), (.slice none 0 0), (.slice none 0 0), Z4, H', ⟨Nat.le_refl _⟩, ⟨(by (with_reducible repeat (first | apply Kd.R_alloc | apply Kd.R_drewN | apply Kd.R_drew)); exact Kd.R_mono (Kd.R_far (p := ⟨gb581, 7, none⟩) (Kd.R_far (p := ⟨gb581, 6, none⟩) (Kd.R_far (p := ⟨gb581, 5, none⟩) (Kd.R_far (p := ⟨gb581, 4, none⟩) (Kd.R_far (p := ⟨gb581, 3, none⟩) (Kd.R_far (p := ⟨gb581, 2, none⟩) (Kd.R_far (p := ⟨gb581, 1, none⟩) (Kd.R_far (p := ⟨gb581, 0, none⟩) (Kd.R_types HO_5.out BK581.out (by decide)) (fun _ hk => hk.2) (.int .i64 (rd x5_1 0))) (fun _ hk => hk.2) (.int .i64 (rd x5_1 1))) (fun _ hk => hk.2) (.int .i64 (rd x5_1 2))) (fun _ hk => hk.2) (.int .i64 (rd x5_1 3))) (fun _ hk => hk.2) (.slice none 0 0)) (fun _ hk => hk.2) (.slice none 0 0)) (fun _ hk => hk.2) (.slice Ao45 t566.length co45)) (fun _ hk => hk.2) (.int .i64 t575)) (fun _ hk => ⟨(by simp [Value.ownBlock]), (by simp [Value.ownBlock])⟩))⟩, ⟨J5⟩, ⟨J5⟩, ⟨(by (with_reducible repeat (first | apply Kd.R_alloc | apply Kd.R_drewN | apply Kd.R_drew)); exact Kd.R_mono (Kd.R_far (p := ⟨gb581, 7, none⟩) (Kd.R_far (p := ⟨gb581, 6, none⟩) (Kd.R_far (p := ⟨gb581, 5, none⟩) (Kd.R_far (p := ⟨gb581, 4, none⟩) (Kd.R_far (p := ⟨gb581, 3, none⟩) (Kd.R_far (p := ⟨gb581, 2, none⟩) (Kd.R_far (p := ⟨gb581, 1, none⟩) (Kd.R_far (p := ⟨gb581, 0, none⟩) (Kd.R_types HO569.out BK581.out (by decide)) (fun _ hk => hk.2) (.int .i64 (rd x5_1 0))) (fun _ hk => hk.2) (.int .i64 (rd x5_1 1))) (fun _ hk => hk.2) (.int .i64 (rd x5_1 2))) (fun _ hk => hk.2) (.int .i64 (rd x5_1 3))) (fun _ hk => hk.2) (.slice none 0 0)) (fun _ hk => hk.2) (.slice none 0 0)) (fun _ hk => hk.2) (.slice Ao45 t566.length co45)) (fun _ hk => hk.2) (.int .i64 t575)) (fun _ hk => trivial))⟩, ⟨(by (with_reducible repeat (first | refine blk_drewN ?_ _ | refine blk_drew ?_ | refine blk_alloc ?_ _)); refine blk_far ?_ NB544_581.out _; (with_reducible repeat (first | refine blk_drewN ?_ _ | refine blk_drew ?_ | refine blk_alloc ?_ _)); refine blk_far ?_ NB544_581.out _; (with_reducible repeat (first | refine blk_drewN ?_ _ | refine blk_drew ?_ | refine blk_alloc ?_ _)); refine blk_far ?_ NB544_581.out _; (with_reducible repeat (first | refine blk_drewN ?_ _ | refine blk_drew ?_ | refine blk_alloc ?_ _)); refine blk_far ?_ NB544_581.out _; (with_reducible repeat (first | refine blk_drewN ?_ _ | refine blk_drew ?_ | refine blk_alloc ?_ _)); refine blk_far ?_ NB544_581.out _; (with_reducible repeat (first | refine blk_drewN ?_ _ | refine blk_drew ?_ | refine blk_alloc ?_ _)); refine blk_far ?_ NB544_581.out _; (with_reducible repeat (first | refine blk_drewN ?_ _ | refine blk_drew ?_ | refine blk_alloc ?_ _)); refine blk_far ?_ NB544_581.out _; (with_reducible repeat (first | refine blk_drewN ?_ _ | refine blk_drew ?_ | refine blk_alloc ?_ _)); refine blk_far ?_ NB544_581.out _; (with_reducible repeat (first | refine blk_drewN ?_ _ | refine blk_drew ?_ | refine blk_alloc ?_ _)); exact BK544.out)⟩, ⟨(by (with_reducible repeat (first | refine blk_drewN ?_ _ | refine blk_drew ?_ | refine blk_alloc ?_ _)); refine blk_put (cs := #[.int .i64 (rd x5_1 0), .int .i64 (rd x5_1 1), .int .i64 (rd x5_1 2), .int .i64 (rd x5_1 3), .slice none 0 0, .slice none 0 0, .slice Ao45 t566.length co45, .int .i64 0]) ?_ 7 _ rfl; (with_reducible repeat (first | refine blk_drewN ?_ _ | refine blk_drew ?_ | refine blk_alloc ?_ _)); refine blk_put (cs := #[.int .i64 (rd x5_1 0), .int .i64 (rd x5_1 1), .int .i64 (rd x5_1 2), .int .i64 (rd x5_1 3), .slice none 0 0, .slice none 0 0, .slice none 0 0, .int .i64 0]) ?_ 6 _ rfl; (with_reducible repeat (first | refine blk_drewN ?_ _ | refine blk_drew ?_ | refine blk_alloc ?_ _)); refine blk_put (cs := #[.int .i64 (rd x5_1 0), .int .i64 (rd x5_1 1), .int .i64 (rd x5_1 2), .int .i64 (rd x5_1 3), .slice none 0 0, .slice none 0 0, .slice none 0 0, .int .i64 0]) ?_ 5 _ rfl; (with_reducible repeat (first | refine blk_drewN ?_ _ | refine blk_drew ?_ | refine blk_alloc ?_ _)); refine blk_put (cs := #[.int .i64 (rd x5_1 0), .int .i64 (rd x5_1 1), .int .i64 (rd x5_1 2), .int .i64 (rd x5_1 3), .slice none 0 0, .slice none 0 0, .slice none 0 0, .int .i64 0]) ?_ 4 _ rfl; (with_reducible repeat (first | refine blk_drewN ?_ _ | refine blk_drew ?_ | refine blk_alloc ?_ _)); refine blk_put (cs := #[.int .i64 (rd x5_1 0), .int .i64 (rd x5_1 1), .int .i64 (rd x5_1 2), .int .i64 0, .slice none 0 0, .slice none 0 0, .slice none 0 0, .int .i64 0]) ?_ 3 _ rfl; (with_reducible repeat (first | refine blk_drewN ?_ _ | refine blk_drew ?_ | refine blk_alloc ?_ _)); refine blk_put (cs := #[.int .i64 (rd x5_1 0), .int .i64 (rd x5_1 1), .int .i64 0, .int .i64 0, .slice none 0 0, .slice none 0 0, .slice none 0 0, .int .i64 0]) ?_ 2 _ rfl; (with_reducible repeat (first | refine blk_drewN ?_ _ | refine blk_drew ?_ | refine blk_alloc ?_ _)); refine blk_put (cs := #[.int .i64 (rd x5_1 0), .int .i64 0, .int .i64 0, .int .i64 0, .slice none 0 0, .slice none 0 0, .slice none 0 0, .int .i64 0]) ?_ 1 _ rfl; (with_reducible repeat (first | refine blk_drewN ?_ _ | refine blk_drew ?_ | refine blk_alloc ?_ _)); refine blk_put (cs := #[.int .i64 0, .int .i64 0, .int .i64 0, .int .i64 0, .slice none 0 0, .slice none 0 0, .slice none 0 0, .int .i64 0]) ?_ 0 _ rfl; (with_reducible repeat (first | refine blk_drewN ?_ _ | refine blk_drew ?_ | refine blk_alloc ?_ _)); exact BK581.out)⟩, ⟨J20⟩⟩
              case round =>
               clear H'
               try clear c1
               try clear q1
               try clear c2
               try clear c2b0
               try clear c2b1
               try clear c2b2
               try clear p2
               try clear c3
               try clear q3
               try clear c4
               try clear q4
               try clear p5
               try clear q5
               try clear hx5
               try clear qi5
               try clear p6
               try clear c8
               try clear c8b0
               try clear c9
               try clear c9b0
               try clear c9b1
               try clear c10
               try clear c10b0
               try clear c10b1
               try clear c14
               try clear q14
               try clear c16
               try clear c16b0
               try clear c16b1
               try clear c18
               try clear c22
               try clear c22b0
               try clear c22b1
               try clear c23
               try clear c23b0
               try clear c25
               try clear c25b0
               try clear c25b1
               try clear c26
               try clear c26b0
               try clear c26b1
               try clear c28
               try clear c29
               try clear c30
               try clear q30
               try clear c33
               try clear c33b0
               try clear c33b1
               try clear c36
               try clear c36b0
               try clear c36b1
               try clear c37
               try clear c37b0
               try clear c37b1
               try clear c39
               try clear c39b0
               try clear c39b1
               try clear c40
               try clear c40b0
               try clear c40b1
               try clear c41
               try clear c41b0
               try clear c41b1
               try clear c42
               try clear c42b0
               try clear c42b1
               try clear c43
               try clear q43
               try clear hcz17_0
               try clear hcz17_1
               try clear hcz17_2
               try clear hcz17_3
               try clear hcz17_4
               try clear hcz17_5
               try clear hcz17_6
               try clear hcz17_7
               try clear hcz24_0
               try clear hcz24_1
               try clear hcz24_2
               try clear hcz24_3
               try clear hcz24_4
               try clear hcz24_5
               try clear hcz24_6
               try clear hcz24_7
               try clear hcz34_0
               try clear hcz34_1
               try clear hcz34_2
               try clear hcz34_3
               try clear hcz34_4
               try clear hcz34_5
               try clear hcz34_6
               try clear hcz34_7
               try clear hfz17_0
               try clear hfz17_1
               try clear hfz17_2
               try clear hfz17_3
               try clear hfz17_4
               try clear hfz17_5
               try clear hfz17_6
               try clear hfz17_7
               try clear hfz24_0
               try clear hfz24_1
               try clear hfz24_2
               try clear hfz24_3
               try clear hfz24_4
               try clear hfz24_5
               try clear hfz24_6
               try clear hfz24_7
               try clear hfz34_0
               try clear hfz34_1
               try clear hfz34_2
               try clear hfz34_3
               try clear hfz34_4
               try clear hfz34_5
               try clear hfz34_6
               try clear hfz34_7
               try clear hx577_0
               try clear hx578_0
               try clear hx579_0
               try clear hx580_0
               try clear p2
               try clear p577
               try clear p578
               try clear p579
               try clear p580
               try clear q014
               try clear q030
               try clear q043
               try clear q14
               try clear q30
               try clear q43
               try clear q577
               try clear q578
               try clear q579
               try clear q580
               obtain ⟨x15_2, x582004_2, x582005_2, u582004, u582005, rfl, HA, HK2, HO_5, HO_582004, HO_582005, HO_582006, BK544, BK581, HB⟩ := hrel
               cases gk with
               | zero => exact absurd HA.out (by simp [spec_ReadBlock.l1])
               | succ k2 =>
                have H := HA.out
                clear HA
                simp only [spec_ReadBlock.l1] at H
                by_cases c55 : x15_2 < (x5_1.length : Int)
                ·rw [if_pos c55] at H
                 have c55b0 : decide (x15_2 < (x5_1.length : Int)) = true := decide_eq_true c55
                 clear c55
                 by_cases c56 : 0 ≤ x15_2
                 ·rw [if_pos c56] at H
                  have c56b0 : decide (0 ≤ x15_2) = true := decide_eq_true c56
                  clear c56
                  by_cases c57 : x582004_2.length < 17592186044416
                  ·rw [if_pos c57] at H
                   have LMc57 := Aside0.mk c57
                   clear c57
                   obtain ⟨y583, hy583⟩ : ∃ y_ : List Int, y_ = (x582004_2 ++ [rd x5_1 x15_2]) := ⟨_, rfl⟩
                   replace H : (if 0 ≤ (wrap64 (x15_2 + 1)) then (if (wrap64 (x15_2 + 1)) < (x5_1.length : Int) then (if x582005_2.length < 17592186044416 then (spec_ReadBlock.l1 k2 a0 x5_1 (wrap64 (x15_2 + 2)) (rd x5_1 0) (rd x5_1 1) (rd x5_1 2) (rd x5_1 3) y583 (x582005_2 ++ [rd x5_1 (wrap64 (x15_2 + 1))]) t566 t575) else (none)) else (none)) else (none)) = some (r1, r2, r3, r4, r5, r6, r7, r8, r9) := by first | (rw [hy583]; with_reducible exact H) | (have H2_ := (Option.bind_some _ _).symm.trans H; rw [hy583]; with_reducible exact H2_) | (have H2_ := (Option.bind_some _ _).symm.trans H; with_reducible exact H2_) | with_reducible exact H | (rw [hy583]; exact H) | exact H
                   have Ny583 := Aside0.mk hy583
                   clear hy583
                   obtain ⟨ji58, hji58⟩ : ∃ j_ : Int, (wrap64 (x15_2 + 1)) = j_ := ⟨_, rfl⟩
                   replace H : (if 0 ≤ (ji58) then (if (ji58) < (x5_1.length : Int) then (if x582005_2.length < 17592186044416 then (spec_ReadBlock.l1 k2 a0 x5_1 (wrap64 (x15_2 + 2)) (rd x5_1 0) (rd x5_1 1) (rd x5_1 2) (rd x5_1 3) y583 (x582005_2 ++ [rd x5_1 (ji58)]) t566 t575) else (none)) else (none)) else (none)) = some (r1, r2, r3, r4, r5, r6, r7, r8, r9) := by first | (rw [hji58] at H; exact H) | (simp only [hji58] at H ⊢; exact H)
                   have hji58w : (IntKind.i64.wrap (x15_2 + 1)) = ji58 := (i64_w _).trans hji58
                   by_cases c59 : 0 ≤ (ji58)
                   ·rw [if_pos c59] at H
                    have c59b0 : decide (0 ≤ (ji58)) = true := decide_eq_true c59
                    clear c59
                    by_cases c60 : (ji58) < (x5_1.length : Int)
                    ·rw [if_pos c60] at H
                     have c60b0 : decide ((ji58) < (x5_1.length : Int)) = true := decide_eq_true c60
                     clear c60
                     by_cases c61 : x582005_2.length < 17592186044416
                     ·rw [if_pos c61] at H
                      have LMc61 := Aside0.mk c61
                      clear c61
                      obtain ⟨y587, hy587⟩ : ∃ y_ : List Int, y_ = (x582005_2 ++ [rd x5_1 (ji58)]) := ⟨_, rfl⟩
                      replace H : (spec_ReadBlock.l1 k2 a0 x5_1 (wrap64 (x15_2 + 2)) (rd x5_1 0) (rd x5_1 1) (rd x5_1 2) (rd x5_1 3) y583 y587 t566 t575) = some (r1, r2, r3, r4, r5, r6, r7, r8, r9) := by first | (rw [hy587]; with_reducible exact H) | (have H2_ := (Option.bind_some _ _).symm.trans H; rw [hy587]; with_reducible exact H2_) | (have H2_ := (Option.bind_some _ _).symm.trans H; with_reducible exact H2_) | with_reducible exact H | (rw [hy587]; exact H) | exact H
                      have Ny587 := Aside0.mk hy587
                      clear hy587
                      have H' := Aside0.mk H
                      clear H
                      try go_wp2
                      replace HO_5 := Aside0.mk (Kd.R_drew HO_5.out)
                      replace HO_582004 := Aside0.mk (Kd.R_drew HO_582004.out)
                      replace HO_582005 := Aside0.mk (Kd.R_drew HO_582005.out)
                      replace HO_582006 := Aside0.mk (Kd.R_drew HO_582006.out)
                      replace BK544 := Aside0.mk (blk_drew BK544.out)
                      replace BK581 := Aside0.mk (blk_drew BK581.out)
                      replace HB := Aside0.mk (below_drew1 HB.out)
                      have p582 : 0 ≤ (x15_2 : Int) := od_
                      have q582 : x15_2 < (x5_1.length : Int) := od_
                      obtain ⟨ad582, e582, hx582_0⟩ := Kd.at_int (Kd.R_reads' HO_5.out).2.2 x15_2 p582 q582
                      obtain rfl : ad577 = ad582 := (by injection e582)
                      replace p582 := eq_true p582
                      replace q582 := eq_true q582
                      refine start_ (n := 12) (S := fun w' => w'.cell? ⟨gb581, 0, none⟩ = some (.int .i64 (rd x5_1 0)) ∧ w'.cell? ⟨gb581, 1, none⟩ = some (.int .i64 (rd x5_1 1)) ∧ w'.cell? ⟨gb581, 2, none⟩ = some (.int .i64 (rd x5_1 2)) ∧ w'.cell? ⟨gb581, 3, none⟩ = some (.int .i64 (rd x5_1 3)) ∧ w'.cell? ⟨gb581, 4, none⟩ = some (u582004) ∧ w'.cell? ⟨gb581, 5, none⟩ = some (u582005) ∧ w'.cell? ⟨gb581, 6, none⟩ = some (.slice Ao45 t566.length co45) ∧ w'.cell? ⟨gb581, 7, none⟩ = some (.int .i64 t575) ∧ w'.cell? (ad577.add (x15_2).toNat) = some (.int .i64 (rd x5_1 x15_2))) (ds := [8, 11]) (bA 12 0) (by kernel_rfl) rfl rfl ⟨(blk_cell BK581.out 0).trans rfl, (blk_cell BK581.out 1).trans rfl, (blk_cell BK581.out 2).trans rfl, (blk_cell BK581.out 3).trans rfl, (blk_cell BK581.out 4).trans rfl, (blk_cell BK581.out 5).trans rfl, (blk_cell BK581.out 6).trans rfl, (blk_cell BK581.out 7).trans rfl, hx582_0⟩ (fun hHeld => ?_); refine with_tabW spec_ReadBlock.tab24 spec_ReadBlock.bits24 (fun HT_ HW_ => ?_)
                      generalize wr.drew = w62 at HO_5 HO_582004 HO_582005 HO_582006 BK544 BK581 HB hx582_0 hHeld ⊢
                      refine pv (i := 0) (N := some 91) (bA 12 1) rfl rfl J13 ?_
                      refine pv (i := 1) (N := some 92) (bA 12 3) rfl rfl J13 ?_
                      refine pv (i := 3) (N := some 94) (bA 12 11) rfl rfl J13 ?_
                      refine pv (i := 4) (N := some 95) (bA 12 27) rfl rfl J13 ?_
                      refine pv (i := 5) (N := some 96) (bA 12 59) rfl rfl J13 ?_
                      refine take_ (i := 2) (N := some 93) (v := ?_) (a' := ?_) (bA 12 63) rfl rfl J28 (fun _ _ _ h => h) (Or.inl ⟨(by rfl), ?_⟩) hHeld ?_ ?_
                      rotate_left
                      ·rintro w' ⟨s0, s1, s2, s3, s4, s5, s6, s7, s8⟩
                       go_simp
                       with_reducible rfl
                      rotate_left
                      ·simp only [sp_]
                       rfl
                      refine take_ (i := 6) (N := some 97) (v := ?_) (a' := ?_) (bA 12 127) rfl rfl J28 (fun _ _ _ h => h) (Or.inl ⟨(by rfl), ?_⟩) hHeld ?_ ?_
                      rotate_left
                      ·rintro w' ⟨s0, s1, s2, s3, s4, s5, s6, s7, s8⟩
                       go_simp
                       with_reducible rfl
                      rotate_left
                      ·simp only [sp_]
                       rfl
                      refine one_ (i := 7) (N := some 98) (bA 12 255) rfl rfl (one_of HT_.out (by kernel_rfl)) (by decide) (fun K hK => ?_)
                      refine value_ (w1 := ?_) (v := ?_) (by rfl) rfl ?_ ?_
                      rotate_left 2
                      ·go_simp
                       constructor
                       ·rfl
                       ·rfl
                      refine hK.out _ _ ⟨(blk_cell (blk_alloc BK581.out _) 0).trans rfl, (blk_cell (blk_alloc BK581.out _) 1).trans rfl, (blk_cell (blk_alloc BK581.out _) 2).trans rfl, (blk_cell (blk_alloc BK581.out _) 3).trans rfl, (blk_cell (blk_alloc BK581.out _) 4).trans rfl, (blk_cell (blk_alloc BK581.out _) 5).trans rfl, (blk_cell (blk_alloc BK581.out _) 6).trans rfl, (blk_cell (blk_alloc BK581.out _) 7).trans rfl, (World.cell?_alloc_lt _ _ _ (World.block_lt_of_cell? _ _ (hHeld.2.2.2.2.2.2.2.2))).trans (hHeld.2.2.2.2.2.2.2.2)⟩ (fun hHeld => ?_)
                      clear hK K
                      refine norm_ (a' := ?_) ?_ ?_
                      rotate_left
                      ·show Act.put _ (some 98) _ = _
                       simp only [sp_]
                       rfl
                      refine last_ (i := 8) (N := some 99) (bA 12 511) rfl rfl (one_of HT_.out (by kernel_rfl)) (by decide) (fun K hK => ?_)
                      refine Kd.R_append_step (Kd.int .i64) (w0 := w) w.heap.size (by rfl) (.tmp 93) (.tmp 98) 24 2 (.int .i64 0) 8 rfl Tryd.underlying24 info2 rfl (by decide) (by omega) u582004 x582004_2 (rd x5_1 x15_2) [.int .i64 (rd x5_1 x15_2)] (fun k_ => some k_ ≠ (.slice (some ad577) x5_1.length co29 : Value).ownBlock ∧ some k_ ≠ (u582005 : Value).ownBlock) (fun _ => False) rfl rfl ?aP (fun _ hk => hk.elim) ?aF ?aO ?aB ?aS ?aL ?_
                      (case aP => exact rfl)
                      (case aB => exact Z21)
                      (case aF => exact (fun k_ hk => ⟨Kd.fresh' (Kd.R_lt Z13) k_ hk, Kd.fresh' (Kd.R_lt Z26) k_ hk⟩))
                      (case aO => exact Z32)
                      (case aS => exact (below_size Z21))
                      (case aL => have := LMc57.out; omega)
                      intro v584 w63 ho hb hg hat
                      rw [← Ny583.out] at ho
                      replace HO_5 := Aside0.mk (Kd.R_after (ok := (fun k_ => some k_ ≠ (u582005 : Value).ownBlock)) (by (with_reducible repeat (first | apply Kd.R_alloc | apply Kd.R_drewN | apply Kd.R_drew)); exact Kd.R_mono HO_5.out (fun _ hk => And.intro hk.2 hk.1)) hg hat)
                      replace HO_582005 := Aside0.mk (Kd.R_after (ok := (fun k_ => some k_ ≠ (.slice (some ad577) x5_1.length co29 : Value).ownBlock)) Z26 hg hat)
                      replace HO_582006 := Aside0.mk (Kd.R_over' Z33 (Kd.R_typed Z32) (by decide) hg)
                      replace BK544 := Aside0.mk (blk_grown (g := gb544) (o := .cells #[.int .i64 x545000_1, .int .i64 x545001_1, .int .i64 x545002_1, .int .i64 x545003_1, .slice none 0 0, .slice none 0 0, .slice none 0 0, .int .i64 x545007_1] 29 (0, 0)) Z16 hg (Kd.R_ne HO_582004.out BK544.out (by decide)))
                      replace BK581 := Aside0.mk (blk_grown (g := gb581) (o := .cells #[.int .i64 (rd x5_1 0), .int .i64 (rd x5_1 1), .int .i64 (rd x5_1 2), .int .i64 (rd x5_1 3), u582004, u582005, .slice Ao45 t566.length co45, .int .i64 t575] 29 (0, 0)) Z30 hg (Kd.R_ne HO_582004.out BK581.out (by decide)))
                      replace HB := Aside0.mk (hb)
                      have HO585 := Aside0.mk (ho)
                      clear HO_582004
                      clear ho hb hg hat
                      obtain ⟨Ao64, co64, eo64⟩ := Kd.R_slice HO585.out
                      (first | subst eo64 | (injection eo64 with f1_ f2_ f3_; have f4_ := f1_.symm; have f5_ := f3_.symm; clear f1_ f2_ f3_; subst f4_; subst f5_))
                      refine hK.out _ _ ?_
                      clear hK K
                      refine norm_ (a' := ?_) ?_ ?_
                      rotate_left
                      ·show Act.put _ (some 99) _ = _
                       simp only [sp_]
                       rfl
                      refine pv (i := 9) (N := some 100) (bA 12 1023) rfl rfl J13 ?_
                      refine pv (i := 10) (N := some 101) (bA 12 2047) rfl rfl J13 ?_
                      refine last_ (i := 11) (N := none) (bA 12 4095) rfl rfl (one_of HT_.out (by kernel_rfl)) (by decide) (fun K hK => ?_)
                      have hs65 : w63.cell? ⟨gb581, 4, none⟩ = some (u582004) := (blk_cell BK581.out 4).trans rfl
                      have hfs65 := blk_frozen BK581.out 4
                      have hns65_0 := NB544_581.out
                      have hms65_0 := NB581_544.out
                      refine skip_ (w1 := ?_) (by rfl) rfl ?_ ?_
                      rotate_left
                      ·go_simp
                       rfl
                      refine hK.out _ _ ?_
                      clear hK K
                      refine done_ (done_of HT_.out (by kernel_rfl)) ?_
                      try go_wp2
                      have n0_ : Aside0 (Kd.R (Kd.int .i64) 2 (w63.setCell ⟨gb581, 4, none⟩ (.slice Ao64 y583.length co64)) w.heap.size (fun k_ => some k_ ≠ (u582005 : Value).ownBlock ∧ some k_ ≠ (.slice Ao64 y583.length co64 : Value).ownBlock) (.slice (some ad577) x5_1.length co29) x5_1) := ⟨(by (with_reducible repeat (first | apply Kd.R_alloc | apply Kd.R_drewN | apply Kd.R_drew)); exact Kd.R_mono (Kd.R_far (p := ⟨gb581, 4, none⟩) (Kd.R_types HO_5.out BK581.out (by decide)) (fun _ hk => hk.2) (.slice Ao64 y583.length co64)) (fun _ hk => And.intro hk.1.1 hk.1.2))⟩
                      have n1_ : Aside0 (Kd.R (Kd.int .i64) 2 (w63.setCell ⟨gb581, 4, none⟩ (.slice Ao64 y583.length co64)) w.heap.size (fun k_ => some k_ ≠ (.slice (some ad577) x5_1.length co29 : Value).ownBlock ∧ some k_ ≠ (.slice Ao64 y583.length co64 : Value).ownBlock) u582005 x582005_2) := ⟨(by (with_reducible repeat (first | apply Kd.R_alloc | apply Kd.R_drewN | apply Kd.R_drew)); exact Kd.R_mono (Kd.R_far (p := ⟨gb581, 4, none⟩) (Kd.R_types HO_582005.out BK581.out (by decide)) (fun _ hk => hk.2) (.slice Ao64 y583.length co64)) (fun _ hk => And.intro hk.1.1 hk.1.2))⟩
                      have n2_ : Aside0 (Kd.R Kd.string 9 (w63.setCell ⟨gb581, 4, none⟩ (.slice Ao64 y583.length co64)) w.heap.size (fun _ => True) (.slice Ao45 t566.length co45) t566) := ⟨(by (with_reducible repeat (first | apply Kd.R_alloc | apply Kd.R_drewN | apply Kd.R_drew)); exact Kd.R_mono (Kd.R_far (p := ⟨gb581, 4, none⟩) (Kd.R_types HO_582006.out BK581.out (by decide)) (fun _ hk => hk.2) (.slice Ao64 y583.length co64)) (fun _ hk => trivial))⟩
                      have n3_ : Aside0 (Kd.R (Kd.int .i64) 2 (w63.setCell ⟨gb581, 4, none⟩ (.slice Ao64 y583.length co64)) w.heap.size (fun k_ => some k_ ≠ (.slice (some ad577) x5_1.length co29 : Value).ownBlock ∧ some k_ ≠ (u582005 : Value).ownBlock) (.slice Ao64 y583.length co64) y583) := ⟨(by (with_reducible repeat (first | apply Kd.R_alloc | apply Kd.R_drewN | apply Kd.R_drew)); exact Kd.R_mono (Kd.R_far (p := ⟨gb581, 4, none⟩) (Kd.R_types HO585.out BK581.out (by decide)) (fun _ hk => hk.2) (.slice Ao64 y583.length co64)) (fun _ hk => And.intro hk.1.1 hk.1.2))⟩
                      have n4_ : Aside0 ((w63.setCell ⟨gb581, 4, none⟩ (.slice Ao64 y583.length co64)).heap[gb544]? = some (.cells #[.int .i64 x545000_1, .int .i64 x545001_1, .int .i64 x545002_1, .int .i64 x545003_1, .slice none 0 0, .slice none 0 0, .slice none 0 0, .int .i64 x545007_1] 29 (0, 0))) := ⟨(by (with_reducible repeat (first | refine blk_drewN ?_ _ | refine blk_drew ?_ | refine blk_alloc ?_ _)); refine blk_far ?_ NB544_581.out _; (with_reducible repeat (first | refine blk_drewN ?_ _ | refine blk_drew ?_ | refine blk_alloc ?_ _)); exact BK544.out)⟩
                      have n5_ : Aside0 ((w63.setCell ⟨gb581, 4, none⟩ (.slice Ao64 y583.length co64)).heap[gb581]? = some (.cells #[.int .i64 (rd x5_1 0), .int .i64 (rd x5_1 1), .int .i64 (rd x5_1 2), .int .i64 (rd x5_1 3), .slice Ao64 y583.length co64, u582005, .slice Ao45 t566.length co45, .int .i64 t575] 29 (0, 0))) := ⟨(by (with_reducible repeat (first | refine blk_drewN ?_ _ | refine blk_drew ?_ | refine blk_alloc ?_ _)); refine blk_put (cs := #[.int .i64 (rd x5_1 0), .int .i64 (rd x5_1 1), .int .i64 (rd x5_1 2), .int .i64 (rd x5_1 3), u582004, u582005, .slice Ao45 t566.length co45, .int .i64 t575]) ?_ 4 _ rfl; (with_reducible repeat (first | refine blk_drewN ?_ _ | refine blk_drew ?_ | refine blk_alloc ?_ _)); exact BK581.out)⟩
                      have n6_ : Aside0 (Below w.heap.size w (w63.setCell ⟨gb581, 4, none⟩ (.slice Ao64 y583.length co64))) := ⟨J20⟩
                      (try clear HO_5)
                      (try clear HO_582005)
                      (try clear HO_582006)
                      (try clear HO585)
                      (try clear BK544)
                      (try clear BK581)
                      (try clear HB)
                      generalize (w63.setCell ⟨gb581, 4, none⟩ (.slice Ao64 y583.length co64)) = w66 at n0_ n1_ n2_ n3_ n4_ n5_ n6_ ⊢
                      have HO_5 := n0_
                      have HO_582005 := n1_
                      have HO_582006 := n2_
                      have HO585 := n3_
                      have BK544 := n4_
                      have BK581 := n5_
                      have HB := n6_
                      clear n0_ n1_ n2_ n3_ n4_ n5_ n6_
                      replace HO_5 := Aside0.mk (Kd.R_drew HO_5.out)
                      replace HO_582005 := Aside0.mk (Kd.R_drew HO_582005.out)
                      replace HO_582006 := Aside0.mk (Kd.R_drew HO_582006.out)
                      replace HO585 := Aside0.mk (Kd.R_drew HO585.out)
                      replace BK544 := Aside0.mk (blk_drew BK544.out)
                      replace BK581 := Aside0.mk (blk_drew BK581.out)
                      replace HB := Aside0.mk (below_drew1 HB.out)
                      have p586 : 0 ≤ ((ji58) : Int) := od_
                      have q586 : (ji58) < (x5_1.length : Int) := od_
                      obtain ⟨ad586, e586, hx586_0⟩ := Kd.at_int (Kd.R_reads' HO_5.out).2.2 (ji58) p586 q586
                      obtain rfl : ad577 = ad586 := (by injection e586)
                      replace p586 := eq_true p586
                      replace q586 := eq_true q586
                      refine start_ (n := 13) (S := fun w' => w'.cell? ⟨gb581, 0, none⟩ = some (.int .i64 (rd x5_1 0)) ∧ w'.cell? ⟨gb581, 1, none⟩ = some (.int .i64 (rd x5_1 1)) ∧ w'.cell? ⟨gb581, 2, none⟩ = some (.int .i64 (rd x5_1 2)) ∧ w'.cell? ⟨gb581, 3, none⟩ = some (.int .i64 (rd x5_1 3)) ∧ w'.cell? ⟨gb581, 4, none⟩ = some (.slice Ao64 y583.length co64) ∧ w'.cell? ⟨gb581, 5, none⟩ = some (u582005) ∧ w'.cell? ⟨gb581, 6, none⟩ = some (.slice Ao45 t566.length co45) ∧ w'.cell? ⟨gb581, 7, none⟩ = some (.int .i64 t575) ∧ w'.cell? (ad577.add ((ji58)).toNat) = some (.int .i64 (rd x5_1 (ji58)))) (ds := [9, 12]) (bA 13 0) (by kernel_rfl) rfl rfl ⟨(blk_cell BK581.out 0).trans rfl, (blk_cell BK581.out 1).trans rfl, (blk_cell BK581.out 2).trans rfl, (blk_cell BK581.out 3).trans rfl, (blk_cell BK581.out 4).trans rfl, (blk_cell BK581.out 5).trans rfl, (blk_cell BK581.out 6).trans rfl, (blk_cell BK581.out 7).trans rfl, hx586_0⟩ (fun hHeld => ?_); refine with_tabW spec_ReadBlock.tab25 spec_ReadBlock.bits25 (fun HT_ HW_ => ?_)
                      generalize w66.drew = w67 at HO_5 HO_582005 HO_582006 HO585 BK544 BK581 HB hx586_0 hHeld ⊢
                      refine pv (i := 0) (N := some 102) (bA 13 1) rfl rfl J13 ?_
                      refine pv (i := 1) (N := some 103) (bA 13 3) rfl rfl J13 ?_
                      refine pv (i := 3) (N := some 105) (bA 13 11) rfl rfl J13 ?_
                      refine pv (i := 4) (N := some 106) (bA 13 27) rfl rfl J13 ?_
                      refine pv (i := 5) (N := some 107) (bA 13 59) rfl rfl J13 ?_
                      refine pv (i := 6) (N := some 108) (bA 13 123) rfl rfl J13 ?_
                      refine take_ (i := 2) (N := some 104) (v := ?_) (a' := ?_) (bA 13 127) rfl rfl J28 (fun _ _ _ h => h) (Or.inl ⟨(by rfl), ?_⟩) hHeld ?_ ?_
                      rotate_left
                      ·rintro w' ⟨s0, s1, s2, s3, s4, s5, s6, s7, s8⟩
                       go_simp
                       with_reducible rfl
                      rotate_left
                      ·simp only [sp_]
                       rfl
                      refine take_ (i := 7) (N := some 109) (v := ?_) (a' := ?_) (bA 13 255) rfl rfl J28 (fun _ _ _ h => h) (Or.inl ⟨(by rfl), ?_⟩) hHeld ?_ ?_
                      rotate_left
                      ·rintro w' ⟨s0, s1, s2, s3, s4, s5, s6, s7, s8⟩
                       go_simp
                       with_reducible rfl
                      rotate_left
                      ·simp only [sp_]
                       rfl
                      refine one_ (i := 8) (N := some 110) (bA 13 511) rfl rfl (one_of HT_.out (by kernel_rfl)) (by decide) (fun K hK => ?_)
                      refine value_ (w1 := ?_) (v := ?_) (by rfl) rfl ?_ ?_
                      rotate_left 2
                      ·go_simp
                       constructor
                       ·rfl
                       ·rfl
                      refine hK.out _ _ ⟨(blk_cell (blk_alloc BK581.out _) 0).trans rfl, (blk_cell (blk_alloc BK581.out _) 1).trans rfl, (blk_cell (blk_alloc BK581.out _) 2).trans rfl, (blk_cell (blk_alloc BK581.out _) 3).trans rfl, (blk_cell (blk_alloc BK581.out _) 4).trans rfl, (blk_cell (blk_alloc BK581.out _) 5).trans rfl, (blk_cell (blk_alloc BK581.out _) 6).trans rfl, (blk_cell (blk_alloc BK581.out _) 7).trans rfl, (World.cell?_alloc_lt _ _ _ (World.block_lt_of_cell? _ _ (hHeld.2.2.2.2.2.2.2.2))).trans (hHeld.2.2.2.2.2.2.2.2)⟩ (fun hHeld => ?_)
                      clear hK K
                      refine norm_ (a' := ?_) ?_ ?_
                      rotate_left
                      ·show Act.put _ (some 110) _ = _
                       simp only [sp_]
                       rfl
                      refine last_ (i := 9) (N := some 111) (bA 13 1023) rfl rfl (one_of HT_.out (by kernel_rfl)) (by decide) (fun K hK => ?_)
                      refine Kd.R_append_step (Kd.int .i64) (w0 := w) w.heap.size (by rfl) (.tmp 104) (.tmp 110) 24 2 (.int .i64 0) 8 rfl Tryd.underlying24 info2 rfl (by decide) (by omega) u582005 x582005_2 (rd x5_1 (ji58)) [.int .i64 (rd x5_1 (ji58))] (fun k_ => some k_ ≠ (.slice (some ad577) x5_1.length co29 : Value).ownBlock ∧ some k_ ≠ (.slice Ao64 y583.length co64 : Value).ownBlock) (fun _ => False) rfl rfl ?aP (fun _ hk => hk.elim) ?aF ?aO ?aB ?aS ?aL ?_
                      (case aP => exact rfl)
                      (case aB => exact Z21)
                      (case aF => exact (fun k_ hk => ⟨Kd.fresh' (Kd.R_lt Z13) k_ hk, Kd.fresh' (Kd.R_lt (by (with_reducible repeat (first | apply Kd.R_alloc | apply Kd.R_drewN | apply Kd.R_drew)); exact HO585.out)) k_ hk⟩))
                      (case aO => exact Z26)
                      (case aS => exact (below_size Z21))
                      (case aL => have := LMc61.out; omega)
                      intro v588 w68 ho hb hg hat
                      rw [← Ny587.out] at ho
                      replace HO_5 := Aside0.mk (Kd.R_after (ok := (fun k_ => some k_ ≠ (.slice Ao64 y583.length co64 : Value).ownBlock)) (by (with_reducible repeat (first | apply Kd.R_alloc | apply Kd.R_drewN | apply Kd.R_drew)); exact Kd.R_mono HO_5.out (fun _ hk => And.intro hk.2 hk.1)) hg hat)
                      replace HO_582006 := Aside0.mk (Kd.R_over' Z33 (Kd.R_typed Z26) (by decide) hg)
                      replace BK544 := Aside0.mk (blk_grown (g := gb544) (o := .cells #[.int .i64 x545000_1, .int .i64 x545001_1, .int .i64 x545002_1, .int .i64 x545003_1, .slice none 0 0, .slice none 0 0, .slice none 0 0, .int .i64 x545007_1] 29 (0, 0)) Z16 hg (Kd.R_ne HO_582005.out BK544.out (by decide)))
                      replace BK581 := Aside0.mk (blk_grown (g := gb581) (o := .cells #[.int .i64 (rd x5_1 0), .int .i64 (rd x5_1 1), .int .i64 (rd x5_1 2), .int .i64 (rd x5_1 3), .slice Ao64 y583.length co64, u582005, .slice Ao45 t566.length co45, .int .i64 t575] 29 (0, 0)) Z30 hg (Kd.R_ne HO_582005.out BK581.out (by decide)))
                      replace HO585 := Aside0.mk (Kd.R_after (ok := (fun k_ => some k_ ≠ (.slice (some ad577) x5_1.length co29 : Value).ownBlock)) (by (with_reducible repeat (first | apply Kd.R_alloc | apply Kd.R_drewN | apply Kd.R_drew)); exact HO585.out) hg hat)
                      replace HB := Aside0.mk (hb)
                      have HO589 := Aside0.mk (ho)
                      clear HO_582005
                      clear ho hb hg hat
                      obtain ⟨Ao69, co69, eo69⟩ := Kd.R_slice HO589.out
                      (first | subst eo69 | (injection eo69 with f1_ f2_ f3_; have f4_ := f1_.symm; have f5_ := f3_.symm; clear f1_ f2_ f3_; subst f4_; subst f5_))
                      refine hK.out _ _ ?_
                      clear hK K
                      refine norm_ (a' := ?_) ?_ ?_
                      rotate_left
                      ·show Act.put _ (some 111) _ = _
                       simp only [sp_]
                       rfl
                      refine pv (i := 10) (N := some 112) (bA 13 2047) rfl rfl J13 ?_
                      refine pv (i := 11) (N := some 113) (bA 13 4095) rfl rfl J13 ?_
                      refine last_ (i := 12) (N := none) (bA 13 8191) rfl rfl (one_of HT_.out (by kernel_rfl)) (by decide) (fun K hK => ?_)
                      have hs70 : w68.cell? ⟨gb581, 5, none⟩ = some (u582005) := (blk_cell BK581.out 5).trans rfl
                      have hfs70 := blk_frozen BK581.out 5
                      have hns70_0 := NB544_581.out
                      have hms70_0 := NB581_544.out
                      refine skip_ (w1 := ?_) (by rfl) rfl ?_ ?_
                      rotate_left
                      ·go_simp
                       rfl
                      refine hK.out _ _ ?_
                      clear hK K
                      refine done_ (done_of HT_.out (by kernel_rfl)) ?_
                      try go_wp2
                      go_roundg k2
                      case measure => have := HK1.out; have := HK2.out; omega
                      case rel => exact ⟨(wrap64 (x15_2 + 2)), (y583), (y587), (.slice Ao64 y583.length co64), (.slice Ao69 y587.length co69), Z4, H', ⟨(by have := HK1.out; have := HK2.out; omega)⟩, ⟨(by (with_reducible repeat (first | apply Kd.R_alloc | apply Kd.R_drewN | apply Kd.R_drew)); exact Kd.R_mono (Kd.R_far (p := ⟨gb581, 5, none⟩) (Kd.R_types HO_5.out BK581.out (by decide)) (fun _ hk => hk.2) (.slice Ao69 y587.length co69)) (fun _ hk => And.intro hk.1.1 hk.1.2))⟩, ⟨(by (with_reducible repeat (first | apply Kd.R_alloc | apply Kd.R_drewN | apply Kd.R_drew)); exact Kd.R_mono (Kd.R_far (p := ⟨gb581, 5, none⟩) (Kd.R_types HO585.out BK581.out (by decide)) (fun _ hk => hk.2) (.slice Ao69 y587.length co69)) (fun _ hk => And.intro hk.1.1 hk.1.2))⟩, ⟨(by (with_reducible repeat (first | apply Kd.R_alloc | apply Kd.R_drewN | apply Kd.R_drew)); exact Kd.R_mono (Kd.R_far (p := ⟨gb581, 5, none⟩) (Kd.R_types HO589.out BK581.out (by decide)) (fun _ hk => hk.2) (.slice Ao69 y587.length co69)) (fun _ hk => And.intro hk.1.1 hk.1.2))⟩, ⟨(by (with_reducible repeat (first | apply Kd.R_alloc | apply Kd.R_drewN | apply Kd.R_drew)); exact Kd.R_mono (Kd.R_far (p := ⟨gb581, 5, none⟩) (Kd.R_types HO_582006.out BK581.out (by decide)) (fun _ hk => hk.2) (.slice Ao69 y587.length co69)) (fun _ hk => trivial))⟩, ⟨(by (with_reducible repeat (first | refine blk_drewN ?_ _ | refine blk_drew ?_ | refine blk_alloc ?_ _)); refine blk_far ?_ NB544_581.out _; (with_reducible repeat (first | refine blk_drewN ?_ _ | refine blk_drew ?_ | refine blk_alloc ?_ _)); exact BK544.out)⟩, ⟨(by (with_reducible repeat (first | refine blk_drewN ?_ _ | refine blk_drew ?_ | refine blk_alloc ?_ _)); refine blk_put (cs := #[.int .i64 (rd x5_1 0), .int .i64 (rd x5_1 1), .int .i64 (rd x5_1 2), .int .i64 (rd x5_1 3), .slice Ao64 y583.length co64, u582005, .slice Ao45 t566.length co45, .int .i64 t575]) ?_ 5 _ rfl; (with_reducible repeat (first | refine blk_drewN ?_ _ | refine blk_drew ?_ | refine blk_alloc ?_ _)); exact BK581.out)⟩, ⟨J20⟩⟩
                     ·rw [if_neg c61] at H
                      exact absurd H (by simp)
                    ·rw [if_neg c60] at H
                     exact absurd H (by simp)
                   ·rw [if_neg c59] at H
                    exact absurd H (by simp)
                  ·rw [if_neg c57] at H
                   exact absurd H (by simp)
                 ·rw [if_neg c56] at H
                  exact absurd H (by simp)
                ·rw [if_neg c55] at H
                 have c55b0 : decide (x15_2 < (x5_1.length : Int)) = false := decide_eq_false c55
                 clear c55
                 replace H := Option.bind_eq_some_iff.mp H
                 obtain ⟨t590, A710, H⟩ := H
                 try dsimp only at H
                 have A71 := Aside0.mk A710
                 clear A710
                 by_cases c72 : t590.toList = a0.toList
                 ·rw [if_pos c72] at H
                  have c72b0 : (t590.toList == a0.toList) = true := beq_iff_eq.mpr c72
                  have c72b1 : (t590.toList != a0.toList) = false := bne_eq_false_iff_eq.mpr c72
                  clear c72
                  have HC73 := Aside0.mk H
                  clear H
                  have hnb74 := NB581_544.out
                  have hnc74 := NB544_581.out
                  have hcz75_0 : wr.cell? ⟨gb581, 0, none⟩ = some (.int .i64 (rd x5_1 0)) := (blk_cell BK581.out 0).trans rfl
                  have hcz75_1 : wr.cell? ⟨gb581, 1, none⟩ = some (.int .i64 (rd x5_1 1)) := (blk_cell BK581.out 1).trans rfl
                  have hcz75_2 : wr.cell? ⟨gb581, 2, none⟩ = some (.int .i64 (rd x5_1 2)) := (blk_cell BK581.out 2).trans rfl
                  have hcz75_3 : wr.cell? ⟨gb581, 3, none⟩ = some (.int .i64 (rd x5_1 3)) := (blk_cell BK581.out 3).trans rfl
                  have hcz75_4 : wr.cell? ⟨gb581, 4, none⟩ = some (u582004) := (blk_cell BK581.out 4).trans rfl
                  have hcz75_5 : wr.cell? ⟨gb581, 5, none⟩ = some (u582005) := (blk_cell BK581.out 5).trans rfl
                  have hcz75_6 : wr.cell? ⟨gb581, 6, none⟩ = some (.slice Ao45 t566.length co45) := (blk_cell BK581.out 6).trans rfl
                  have hcz75_7 : wr.cell? ⟨gb581, 7, none⟩ = some (.int .i64 t575) := (blk_cell BK581.out 7).trans rfl
                  have hfz75_0 := blk_frozen BK581.out 0
                  have hfz75_1 := blk_frozen BK581.out 1
                  have hfz75_2 := blk_frozen BK581.out 2
                  have hfz75_3 := blk_frozen BK581.out 3
                  have hfz75_4 := blk_frozen BK581.out 4
                  have hfz75_5 := blk_frozen BK581.out 5
                  have hfz75_6 := blk_frozen BK581.out 6
                  have hfz75_7 := blk_frozen BK581.out 7
                  obtain ⟨Ao76, co76, eo76⟩ := Kd.R_slice HO_582004.out
                  subst eo76
                  obtain ⟨Ao77, co77, eo77⟩ := Kd.R_slice HO_582005.out
                  subst eo77
                  go_upto_if 121 with (first | ((with_reducible refine gate_callee (f := 12) rfl ?_); refine goesL_ (some 115) rfl rfl Tryd.func12 (by kernel_rfl) rfl #[.agg #[.int .i64 (rd x5_1 0), .int .i64 (rd x5_1 1), .int .i64 (rd x5_1 2), .int .i64 (rd x5_1 3), .slice Ao76 x582004_2.length co76, .slice Ao77 x582005_2.length co77, .slice Ao45 t566.length co45, .int .i64 t575]] rfl Z2 ?_; (with_reducible refine (spec_ShowBlock.calls k2 (rd x5_1 0) (rd x5_1 1) (rd x5_1 2) (rd x5_1 3) _ _ x582004_2 _ _ x582005_2 _ _ t566 t575 t590 _ ?side1 ?side2 ?side3 ?side4 ?side5 ?side6 A71.out).mono ?_); (case side1 => exact (by repeat (first | exact (Kd.R_reads' HO_582004.out).2.2 | (with_reducible refine Kd.C_alloc ?_ _) | (with_reducible refine Kd.C_drewN ?_ _) | (with_reducible refine Kd.C_drew ?_)))); (case side2 => exact (Kd.R_reads' HO_582004.out).2.1); (case side3 => exact (by repeat (first | exact (Kd.R_reads' HO_582005.out).2.2 | (with_reducible refine Kd.C_alloc ?_ _) | (with_reducible refine Kd.C_drewN ?_ _) | (with_reducible refine Kd.C_drew ?_)))); (case side4 => exact (Kd.R_reads' HO_582005.out).2.1); (case side5 => exact (by repeat (first | exact (Kd.R_reads' HO_582006.out).2.2 | (with_reducible refine Kd.C_alloc ?_ _) | (with_reducible refine Kd.C_drewN ?_ _) | (with_reducible refine Kd.C_drew ?_)))); (case side6 => exact (Kd.R_reads' HO_582006.out).2.1); rintro e w78 ⟨rfl, hb⟩; refine ⟨_, rfl, ?_⟩; replace HO_5 := Aside0.mk (Kd.R_below Z13 hb); replace HO_582004 := Aside0.mk (Kd.R_below Z32 hb); replace HO_582005 := Aside0.mk (Kd.R_below Z26 hb); replace HO_582006 := Aside0.mk (Kd.R_below Z33 hb); replace BK544 := Aside0.mk (blk_below (g := gb544) (o := .cells #[.int .i64 x545000_1, .int .i64 x545001_1, .int .i64 x545002_1, .int .i64 x545003_1, .slice none 0 0, .slice none 0 0, .slice none 0 0, .int .i64 x545007_1] 29 (0, 0)) Z16 hb); replace BK581 := Aside0.mk (blk_below (g := gb581) (o := .cells #[.int .i64 (rd x5_1 0), .int .i64 (rd x5_1 1), .int .i64 (rd x5_1 2), .int .i64 (rd x5_1 3), .slice Ao76 x582004_2.length co76, .slice Ao77 x582005_2.length co77, .slice Ao45 t566.length co45, .int .i64 t575] 29 (0, 0)) Z30 hb); replace HB := Aside0.mk (below_step Z21 hb); (try clear hb); (try clear hb2); (try clear hk); (try clear hi)))
                  (try simp only [Act.put, List.setIfInBounds_toArray, List.set_cons_zero, List.set_cons_succ])
                  have H := HC73.out
                  clear HC73
                  by_cases c79 : a0.toList = ([] : List UInt8)
                  ·rw [if_pos c79] at H
                   have c79b0 : (a0.toList == ([] : List UInt8)) = true := beq_iff_eq.mpr c79
                   have c79b9 : (a0).toList.isEmpty = true := by rw [eq_of_beq c79b0]; rfl
                   have c79b1 : (a0.toList != ([] : List UInt8)) = false := bne_eq_false_iff_eq.mpr c79
                   clear c79
                   (first | rw [c79b0] | (simp only [i64_w, i32_w]; rw [c79b0]) | skip)
                   try rw [c79b1]
                   try rw [c79b9]
                   simp only [Option.some.injEq, Prod.mk.injEq] at H
                   obtain ⟨rfl, rfl, rfl, rfl, rfl, rfl, rfl, rfl, rfl⟩ := H
                   have hnb80 := NB544_581.out
                   have hnc80 := NB581_544.out
                   have hcz81_0 : w78.cell? ⟨gb544, 0, none⟩ = some (.int .i64 x545000_1) := (blk_cell BK544.out 0).trans rfl
                   have hcz81_1 : w78.cell? ⟨gb544, 1, none⟩ = some (.int .i64 x545001_1) := (blk_cell BK544.out 1).trans rfl
                   have hcz81_2 : w78.cell? ⟨gb544, 2, none⟩ = some (.int .i64 x545002_1) := (blk_cell BK544.out 2).trans rfl
                   have hcz81_3 : w78.cell? ⟨gb544, 3, none⟩ = some (.int .i64 x545003_1) := (blk_cell BK544.out 3).trans rfl
                   have hcz81_4 : w78.cell? ⟨gb544, 4, none⟩ = some (.slice none 0 0) := (blk_cell BK544.out 4).trans rfl
                   have hcz81_5 : w78.cell? ⟨gb544, 5, none⟩ = some (.slice none 0 0) := (blk_cell BK544.out 5).trans rfl
                   have hcz81_6 : w78.cell? ⟨gb544, 6, none⟩ = some (.slice none 0 0) := (blk_cell BK544.out 6).trans rfl
                   have hcz81_7 : w78.cell? ⟨gb544, 7, none⟩ = some (.int .i64 x545007_1) := (blk_cell BK544.out 7).trans rfl
                   have hfz81_0 := blk_frozen BK544.out 0
                   have hfz81_1 := blk_frozen BK544.out 1
                   have hfz81_2 := blk_frozen BK544.out 2
                   have hfz81_3 := blk_frozen BK544.out 3
                   have hfz81_4 := blk_frozen BK544.out 4
                   have hfz81_5 := blk_frozen BK544.out 5
                   have hfz81_6 := blk_frozen BK544.out 6
                   have hfz81_7 := blk_frozen BK544.out 7
                   go_wp2
                   refine bodyPost_ret (results_ct rfl _ _ gb544 29 #[.int .i64 0, .int .i64 0, .int .i64 0, .int .i64 0, .slice none 0 0, .slice none 0 0, .slice none 0 0, .int .i64 0] (0, 0) _ rfl Z3 Tryd.underlying29 rfl (by kernel_rfl)) rfl ?_
                   exact ⟨_, _, _, J35, J5, J5, J5, J20⟩
                  ·rw [if_neg c79] at H
                   have c79b0 : (a0.toList == ([] : List UInt8)) = false := beq_eq_false_iff_ne.mpr c79
                   have c79b9 : (a0).toList.isEmpty = false := by cases hz_ : (a0).toList with | nil => (rw [hz_] at c79b0; exact absurd c79b0 (by decide)) | cons _ _ => rfl
                   have c79b1 : (a0.toList != ([] : List UInt8)) = true := bne_iff_ne.mpr c79
                   (first | rw [c79b0] | (simp only [i64_w, i32_w]; rw [c79b0]) | skip)
                   try rw [c79b1]
                   try rw [c79b9]
                   simp only [Option.some.injEq, Prod.mk.injEq] at H
                   obtain ⟨rfl, rfl, rfl, rfl, rfl, rfl, rfl, rfl, rfl⟩ := H
                   have hnb82 := NB581_544.out
                   have hnc82 := NB544_581.out
                   have hcz83_0 : w78.cell? ⟨gb581, 0, none⟩ = some (.int .i64 (rd x5_1 0)) := (blk_cell BK581.out 0).trans rfl
                   have hcz83_1 : w78.cell? ⟨gb581, 1, none⟩ = some (.int .i64 (rd x5_1 1)) := (blk_cell BK581.out 1).trans rfl
                   have hcz83_2 : w78.cell? ⟨gb581, 2, none⟩ = some (.int .i64 (rd x5_1 2)) := (blk_cell BK581.out 2).trans rfl
                   have hcz83_3 : w78.cell? ⟨gb581, 3, none⟩ = some (.int .i64 (rd x5_1 3)) := (blk_cell BK581.out 3).trans rfl
                   have hcz83_4 : w78.cell? ⟨gb581, 4, none⟩ = some (.slice Ao76 x582004_2.length co76) := (blk_cell BK581.out 4).trans rfl
                   have hcz83_5 : w78.cell? ⟨gb581, 5, none⟩ = some (.slice Ao77 x582005_2.length co77) := (blk_cell BK581.out 5).trans rfl
                   have hcz83_6 : w78.cell? ⟨gb581, 6, none⟩ = some (.slice Ao45 t566.length co45) := (blk_cell BK581.out 6).trans rfl
                   have hcz83_7 : w78.cell? ⟨gb581, 7, none⟩ = some (.int .i64 t575) := (blk_cell BK581.out 7).trans rfl
                   have hfz83_0 := blk_frozen BK581.out 0
                   have hfz83_1 := blk_frozen BK581.out 1
                   have hfz83_2 := blk_frozen BK581.out 2
                   have hfz83_3 := blk_frozen BK581.out 3
                   have hfz83_4 := blk_frozen BK581.out 4
                   have hfz83_5 := blk_frozen BK581.out 5
                   have hfz83_6 := blk_frozen BK581.out 6
                   have hfz83_7 := blk_frozen BK581.out 7
                   have hcz84_0 : w78.cell? ⟨gb544, 0, none⟩ = some (.int .i64 x545000_1) := (blk_cell BK544.out 0).trans rfl
                   have hcz84_1 : w78.cell? ⟨gb544, 1, none⟩ = some (.int .i64 x545001_1) := (blk_cell BK544.out 1).trans rfl
                   have hcz84_2 : w78.cell? ⟨gb544, 2, none⟩ = some (.int .i64 x545002_1) := (blk_cell BK544.out 2).trans rfl
                   have hcz84_3 : w78.cell? ⟨gb544, 3, none⟩ = some (.int .i64 x545003_1) := (blk_cell BK544.out 3).trans rfl
                   have hcz84_4 : w78.cell? ⟨gb544, 4, none⟩ = some (.slice none 0 0) := (blk_cell BK544.out 4).trans rfl
                   have hcz84_5 : w78.cell? ⟨gb544, 5, none⟩ = some (.slice none 0 0) := (blk_cell BK544.out 5).trans rfl
                   have hcz84_6 : w78.cell? ⟨gb544, 6, none⟩ = some (.slice none 0 0) := (blk_cell BK544.out 6).trans rfl
                   have hcz84_7 : w78.cell? ⟨gb544, 7, none⟩ = some (.int .i64 x545007_1) := (blk_cell BK544.out 7).trans rfl
                   have hfz84_0 := blk_frozen BK544.out 0
                   have hfz84_1 := blk_frozen BK544.out 1
                   have hfz84_2 := blk_frozen BK544.out 2
                   have hfz84_3 := blk_frozen BK544.out 3
                   have hfz84_4 := blk_frozen BK544.out 4
                   have hfz84_5 := blk_frozen BK544.out 5
                   have hfz84_6 := blk_frozen BK544.out 6
                   have hfz84_7 := blk_frozen BK544.out 7
                   go_wp2
                   refine bodyPost_ret (results_ct rfl _ _ gb544 29 #[.int .i64 (rd x5_1 0), .int .i64 (rd x5_1 1), .int .i64 (rd x5_1 2), .int .i64 (rd x5_1 3), .slice Ao76 x582004_2.length co76, .slice Ao77 x582005_2.length co77, .slice Ao45 t566.length co45, .int .i64 t575] (0, 0) _ rfl (by (with_reducible repeat (first | refine blk_drewN ?_ _ | refine blk_drew ?_ | refine blk_alloc ?_ _)); refine blk_put (cs := #[.int .i64 (rd x5_1 0), .int .i64 (rd x5_1 1), .int .i64 (rd x5_1 2), .int .i64 (rd x5_1 3), .slice Ao76 x582004_2.length co76, .slice Ao77 x582005_2.length co77, .slice Ao45 t566.length co45, .int .i64 x545007_1]) ?_ 7 _ rfl; (with_reducible repeat (first | refine blk_drewN ?_ _ | refine blk_drew ?_ | refine blk_alloc ?_ _)); refine blk_put (cs := #[.int .i64 (rd x5_1 0), .int .i64 (rd x5_1 1), .int .i64 (rd x5_1 2), .int .i64 (rd x5_1 3), .slice Ao76 x582004_2.length co76, .slice Ao77 x582005_2.length co77, .slice none 0 0, .int .i64 x545007_1]) ?_ 6 _ rfl; (with_reducible repeat (first | refine blk_drewN ?_ _ | refine blk_drew ?_ | refine blk_alloc ?_ _)); refine blk_put (cs := #[.int .i64 (rd x5_1 0), .int .i64 (rd x5_1 1), .int .i64 (rd x5_1 2), .int .i64 (rd x5_1 3), .slice Ao76 x582004_2.length co76, .slice none 0 0, .slice none 0 0, .int .i64 x545007_1]) ?_ 5 _ rfl; (with_reducible repeat (first | refine blk_drewN ?_ _ | refine blk_drew ?_ | refine blk_alloc ?_ _)); refine blk_put (cs := #[.int .i64 (rd x5_1 0), .int .i64 (rd x5_1 1), .int .i64 (rd x5_1 2), .int .i64 (rd x5_1 3), .slice none 0 0, .slice none 0 0, .slice none 0 0, .int .i64 x545007_1]) ?_ 4 _ rfl; (with_reducible repeat (first | refine blk_drewN ?_ _ | refine blk_drew ?_ | refine blk_alloc ?_ _)); refine blk_put (cs := #[.int .i64 (rd x5_1 0), .int .i64 (rd x5_1 1), .int .i64 (rd x5_1 2), .int .i64 x545003_1, .slice none 0 0, .slice none 0 0, .slice none 0 0, .int .i64 x545007_1]) ?_ 3 _ rfl; (with_reducible repeat (first | refine blk_drewN ?_ _ | refine blk_drew ?_ | refine blk_alloc ?_ _)); refine blk_put (cs := #[.int .i64 (rd x5_1 0), .int .i64 (rd x5_1 1), .int .i64 x545002_1, .int .i64 x545003_1, .slice none 0 0, .slice none 0 0, .slice none 0 0, .int .i64 x545007_1]) ?_ 2 _ rfl; (with_reducible repeat (first | refine blk_drewN ?_ _ | refine blk_drew ?_ | refine blk_alloc ?_ _)); refine blk_put (cs := #[.int .i64 (rd x5_1 0), .int .i64 x545001_1, .int .i64 x545002_1, .int .i64 x545003_1, .slice none 0 0, .slice none 0 0, .slice none 0 0, .int .i64 x545007_1]) ?_ 1 _ rfl; (with_reducible repeat (first | refine blk_drewN ?_ _ | refine blk_drew ?_ | refine blk_alloc ?_ _)); refine blk_put (cs := #[.int .i64 x545000_1, .int .i64 x545001_1, .int .i64 x545002_1, .int .i64 x545003_1, .slice none 0 0, .slice none 0 0, .slice none 0 0, .int .i64 x545007_1]) ?_ 0 _ rfl; (with_reducible repeat (first | refine blk_drewN ?_ _ | refine blk_drew ?_ | refine blk_alloc ?_ _)); exact BK544.out) Tryd.underlying29 rfl (by kernel_rfl)) rfl ?_
                   exact ⟨_, _, _, J35, (by (with_reducible repeat (first | apply Kd.R_alloc | apply Kd.R_drewN | apply Kd.R_drew)); exact Kd.R_mono (Kd.R_far (p := ⟨gb544, 7, none⟩) (Kd.R_far (p := ⟨gb544, 6, none⟩) (Kd.R_far (p := ⟨gb544, 5, none⟩) (Kd.R_far (p := ⟨gb544, 4, none⟩) (Kd.R_far (p := ⟨gb544, 3, none⟩) (Kd.R_far (p := ⟨gb544, 2, none⟩) (Kd.R_far (p := ⟨gb544, 1, none⟩) (Kd.R_far (p := ⟨gb544, 0, none⟩) (Kd.R_types HO_582004.out BK544.out (by decide)) (fun _ hk => hk.2) (.int .i64 (rd x5_1 0))) (fun _ hk => hk.2) (.int .i64 (rd x5_1 1))) (fun _ hk => hk.2) (.int .i64 (rd x5_1 2))) (fun _ hk => hk.2) (.int .i64 (rd x5_1 3))) (fun _ hk => hk.2) (.slice Ao76 x582004_2.length co76)) (fun _ hk => hk.2) (.slice Ao77 x582005_2.length co77)) (fun _ hk => hk.2) (.slice Ao45 t566.length co45)) (fun _ hk => hk.2) (.int .i64 t575)) (fun _ hk => hk.1.2)), (by (with_reducible repeat (first | apply Kd.R_alloc | apply Kd.R_drewN | apply Kd.R_drew)); exact Kd.R_mono (Kd.R_far (p := ⟨gb544, 7, none⟩) (Kd.R_far (p := ⟨gb544, 6, none⟩) (Kd.R_far (p := ⟨gb544, 5, none⟩) (Kd.R_far (p := ⟨gb544, 4, none⟩) (Kd.R_far (p := ⟨gb544, 3, none⟩) (Kd.R_far (p := ⟨gb544, 2, none⟩) (Kd.R_far (p := ⟨gb544, 1, none⟩) (Kd.R_far (p := ⟨gb544, 0, none⟩) (Kd.R_types HO_582005.out BK544.out (by decide)) (fun _ hk => hk.2) (.int .i64 (rd x5_1 0))) (fun _ hk => hk.2) (.int .i64 (rd x5_1 1))) (fun _ hk => hk.2) (.int .i64 (rd x5_1 2))) (fun _ hk => hk.2) (.int .i64 (rd x5_1 3))) (fun _ hk => hk.2) (.slice Ao76 x582004_2.length co76)) (fun _ hk => hk.2) (.slice Ao77 x582005_2.length co77)) (fun _ hk => hk.2) (.slice Ao45 t566.length co45)) (fun _ hk => hk.2) (.int .i64 t575)) (fun _ hk => hk.1.2)), (by (with_reducible repeat (first | apply Kd.R_alloc | apply Kd.R_drewN | apply Kd.R_drew)); exact Kd.R_mono (Kd.R_far (p := ⟨gb544, 7, none⟩) (Kd.R_far (p := ⟨gb544, 6, none⟩) (Kd.R_far (p := ⟨gb544, 5, none⟩) (Kd.R_far (p := ⟨gb544, 4, none⟩) (Kd.R_far (p := ⟨gb544, 3, none⟩) (Kd.R_far (p := ⟨gb544, 2, none⟩) (Kd.R_far (p := ⟨gb544, 1, none⟩) (Kd.R_far (p := ⟨gb544, 0, none⟩) (Kd.R_types HO_582006.out BK544.out (by decide)) (fun _ hk => hk.2) (.int .i64 (rd x5_1 0))) (fun _ hk => hk.2) (.int .i64 (rd x5_1 1))) (fun _ hk => hk.2) (.int .i64 (rd x5_1 2))) (fun _ hk => hk.2) (.int .i64 (rd x5_1 3))) (fun _ hk => hk.2) (.slice Ao76 x582004_2.length co76)) (fun _ hk => hk.2) (.slice Ao77 x582005_2.length co77)) (fun _ hk => hk.2) (.slice Ao45 t566.length co45)) (fun _ hk => hk.2) (.int .i64 t575)) (fun _ hk => trivial)), J20⟩
                 ·rw [if_neg c72] at H
                  have c72b0 : (t590.toList == a0.toList) = false := beq_eq_false_iff_ne.mpr c72
                  have c72b1 : (t590.toList != a0.toList) = true := bne_iff_ne.mpr c72
                  simp only [Option.some.injEq, Prod.mk.injEq] at H
                  obtain ⟨rfl, rfl, rfl, rfl, rfl, rfl, rfl, rfl, rfl⟩ := H
                  have hnb85 := NB581_544.out
                  have hnc85 := NB544_581.out
                  have hcz86_0 : wr.cell? ⟨gb581, 0, none⟩ = some (.int .i64 (rd x5_1 0)) := (blk_cell BK581.out 0).trans rfl
                  have hcz86_1 : wr.cell? ⟨gb581, 1, none⟩ = some (.int .i64 (rd x5_1 1)) := (blk_cell BK581.out 1).trans rfl
                  have hcz86_2 : wr.cell? ⟨gb581, 2, none⟩ = some (.int .i64 (rd x5_1 2)) := (blk_cell BK581.out 2).trans rfl
                  have hcz86_3 : wr.cell? ⟨gb581, 3, none⟩ = some (.int .i64 (rd x5_1 3)) := (blk_cell BK581.out 3).trans rfl
                  have hcz86_4 : wr.cell? ⟨gb581, 4, none⟩ = some (u582004) := (blk_cell BK581.out 4).trans rfl
                  have hcz86_5 : wr.cell? ⟨gb581, 5, none⟩ = some (u582005) := (blk_cell BK581.out 5).trans rfl
                  have hcz86_6 : wr.cell? ⟨gb581, 6, none⟩ = some (.slice Ao45 t566.length co45) := (blk_cell BK581.out 6).trans rfl
                  have hcz86_7 : wr.cell? ⟨gb581, 7, none⟩ = some (.int .i64 t575) := (blk_cell BK581.out 7).trans rfl
                  have hfz86_0 := blk_frozen BK581.out 0
                  have hfz86_1 := blk_frozen BK581.out 1
                  have hfz86_2 := blk_frozen BK581.out 2
                  have hfz86_3 := blk_frozen BK581.out 3
                  have hfz86_4 := blk_frozen BK581.out 4
                  have hfz86_5 := blk_frozen BK581.out 5
                  have hfz86_6 := blk_frozen BK581.out 6
                  have hfz86_7 := blk_frozen BK581.out 7
                  obtain ⟨Ao87, co87, eo87⟩ := Kd.R_slice HO_582004.out
                  subst eo87
                  obtain ⟨Ao88, co88, eo88⟩ := Kd.R_slice HO_582005.out
                  subst eo88
                  go_wp2_with (first | ((with_reducible refine gate_callee (f := 12) rfl ?_); refine goesL_ (some 115) rfl rfl Tryd.func12 (by kernel_rfl) rfl #[.agg #[.int .i64 (rd x5_1 0), .int .i64 (rd x5_1 1), .int .i64 (rd x5_1 2), .int .i64 (rd x5_1 3), .slice Ao87 x582004_2.length co87, .slice Ao88 x582005_2.length co88, .slice Ao45 t566.length co45, .int .i64 t575]] rfl Z2 ?_; (with_reducible refine (spec_ShowBlock.calls k2 (rd x5_1 0) (rd x5_1 1) (rd x5_1 2) (rd x5_1 3) _ _ x582004_2 _ _ x582005_2 _ _ t566 t575 t590 _ ?side1 ?side2 ?side3 ?side4 ?side5 ?side6 A71.out).mono ?_); (case side1 => exact (by repeat (first | exact (Kd.R_reads' HO_582004.out).2.2 | (with_reducible refine Kd.C_alloc ?_ _) | (with_reducible refine Kd.C_drewN ?_ _) | (with_reducible refine Kd.C_drew ?_)))); (case side2 => exact (Kd.R_reads' HO_582004.out).2.1); (case side3 => exact (by repeat (first | exact (Kd.R_reads' HO_582005.out).2.2 | (with_reducible refine Kd.C_alloc ?_ _) | (with_reducible refine Kd.C_drewN ?_ _) | (with_reducible refine Kd.C_drew ?_)))); (case side4 => exact (Kd.R_reads' HO_582005.out).2.1); (case side5 => exact (by repeat (first | exact (Kd.R_reads' HO_582006.out).2.2 | (with_reducible refine Kd.C_alloc ?_ _) | (with_reducible refine Kd.C_drewN ?_ _) | (with_reducible refine Kd.C_drew ?_)))); (case side6 => exact (Kd.R_reads' HO_582006.out).2.1); rintro e w89 ⟨rfl, hb⟩; refine ⟨_, rfl, ?_⟩; replace HO_5 := Aside0.mk (Kd.R_below Z13 hb); replace HO_582004 := Aside0.mk (Kd.R_below Z32 hb); replace HO_582005 := Aside0.mk (Kd.R_below Z26 hb); replace HO_582006 := Aside0.mk (Kd.R_below Z33 hb); replace BK544 := Aside0.mk (blk_below (g := gb544) (o := .cells #[.int .i64 x545000_1, .int .i64 x545001_1, .int .i64 x545002_1, .int .i64 x545003_1, .slice none 0 0, .slice none 0 0, .slice none 0 0, .int .i64 x545007_1] 29 (0, 0)) Z16 hb); replace BK581 := Aside0.mk (blk_below (g := gb581) (o := .cells #[.int .i64 (rd x5_1 0), .int .i64 (rd x5_1 1), .int .i64 (rd x5_1 2), .int .i64 (rd x5_1 3), .slice Ao87 x582004_2.length co87, .slice Ao88 x582005_2.length co88, .slice Ao45 t566.length co45, .int .i64 t575] 29 (0, 0)) Z30 hb); replace HB := Aside0.mk (below_step Z21 hb); (try clear hb); (try clear hb2); (try clear hk); (try clear hi); have hcz90_0 : w89.cell? ⟨gb544, 0, none⟩ = some (.int .i64 x545000_1) := (blk_cell BK544.out 0).trans rfl; have hcz90_1 : w89.cell? ⟨gb544, 1, none⟩ = some (.int .i64 x545001_1) := (blk_cell BK544.out 1).trans rfl; have hcz90_2 : w89.cell? ⟨gb544, 2, none⟩ = some (.int .i64 x545002_1) := (blk_cell BK544.out 2).trans rfl; have hcz90_3 : w89.cell? ⟨gb544, 3, none⟩ = some (.int .i64 x545003_1) := (blk_cell BK544.out 3).trans rfl; have hcz90_4 : w89.cell? ⟨gb544, 4, none⟩ = some (.slice none 0 0) := (blk_cell BK544.out 4).trans rfl; have hcz90_5 : w89.cell? ⟨gb544, 5, none⟩ = some (.slice none 0 0) := (blk_cell BK544.out 5).trans rfl; have hcz90_6 : w89.cell? ⟨gb544, 6, none⟩ = some (.slice none 0 0) := (blk_cell BK544.out 6).trans rfl; have hcz90_7 : w89.cell? ⟨gb544, 7, none⟩ = some (.int .i64 x545007_1) := (blk_cell BK544.out 7).trans rfl; have hfz90_0 := blk_frozen BK544.out 0; have hfz90_1 := blk_frozen BK544.out 1; have hfz90_2 := blk_frozen BK544.out 2; have hfz90_3 := blk_frozen BK544.out 3; have hfz90_4 := blk_frozen BK544.out 4; have hfz90_5 := blk_frozen BK544.out 5; have hfz90_6 := blk_frozen BK544.out 6; have hfz90_7 := blk_frozen BK544.out 7))
                  refine bodyPost_ret (results_ct rfl _ _ gb544 29 #[.int .i64 0, .int .i64 0, .int .i64 0, .int .i64 0, .slice none 0 0, .slice none 0 0, .slice none 0 0, .int .i64 0] (0, 0) _ rfl Z3 Tryd.underlying29 rfl (by kernel_rfl)) rfl ?_
                  exact ⟨_, _, _, J35, J5, J5, J5, J20⟩
             ·rw [if_neg c42] at H
              exact absurd H (by simp)
            ·rw [if_neg c41] at H
             exact absurd H (by simp)
           ·rw [if_neg c40] at H
            exact absurd H (by simp)
          ·rw [if_neg c39] at H
           exact absurd H (by simp)
         ·rw [if_neg c37] at H
          exact absurd H (by simp)
        ·rw [if_neg c36] at H
         exact absurd H (by simp)
      ·rw [if_neg c26] at H
       exact absurd H (by simp)
     ·rw [if_neg c25] at H
      exact absurd H (by simp)
 ·rw [if_neg c2] at H
  exact absurd H (by simp)

end Go.Proofs.YtokhjhkkncbjeaaDoor.PFnBlocks
