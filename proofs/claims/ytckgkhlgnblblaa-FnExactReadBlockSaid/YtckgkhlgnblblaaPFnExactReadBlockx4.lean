-- Written by a program of this session (wip/tools/pp.py over the kit's print).
import Derived.Test.YtckgkhlgnblblaaPFnExactReadBlockx0
import Derived.Test.YtckgkhlgnblblaaPFnExactReadBlockx2
import Derived.Test.YtckgkhlgnblblaaPFnExactReadBlockx3
namespace Go.Proofs.Ytckgkhlgnblblaa.PFnExactReadBlock
open Go.RowKit Go.Proofs.YtckgkhlgnblblaaW.PrintWords Go.Proofs.YtckgkhlgnblblaaW.PrintLast Go.Proofs.YtckgkhlgnblblaaW.PrintMore
attribute [local go_sem] max2_int min2_int max_two min_two max_three min_three max_four min_four
attribute [local go_sem high] str_gtr str_leq str_geq
set_option linter.unusedVariables false
set_option linter.unusedSimpArgs false

theorem conv_obj (W : World) (e : TypeId) (s : ByteArray) (hs : s.size ≤ 9223372036854775807) :
  ∃ cs fr, (Lib.bytesWorld W e s).heap[W.heap.size]? = some (.cells cs e fr) ∧ ∀ W1 : World, W1.heap[W.heap.size]? = some (.cells cs e fr) →
   Kd.C (Kd.int .u8) W1 (some ⟨W.heap.size, 0, none⟩) (bytesOf s).length (bytesOf s) := by
 have hlt : W.heap.size < (Lib.bytesWorld W e s).heap.size := by rw [Lib.bytesWorld_size]; omega
 have hfz : ∃ cs fr, (Lib.bytesWorld W e s).heap[W.heap.size]? = some (.cells cs e fr) := by
  simp only [Lib.bytesWorld, World.freeze, World.alloc, World.drew, show ¬ (1 = 0) from by decide, if_false, Array.getElem?_modify, Array.getElem?_push_size, if_true, Option.map_some]
  exact ⟨_, _, rfl⟩
 obtain ⟨cs, fr, h0⟩ := hfz
 refine ⟨cs, fr, h0, fun W1 h1 => ?_⟩
 have hr := bytes_reads W e s hs
 refine Kd.C_of_reads (h1 := fun _ => rfl) (d := 0) ⟨rfl, by rw [bytesOf_length]; exact hs, fun hp => ⟨_, rfl, fun j hj => ?_⟩⟩
 obtain ⟨ad, ea, hc⟩ := hr.2.2 (by rw [bytesOf_length] at hp; exact hp)
 cases ea
 have h2 := hc j (by rw [bytesOf_length] at hj; exact hj)
 rw [add_plain] at h2 ⊢
 rw [← h2]
 simp only [World.cell?, h1, h0]
theorem Kd.V_conv {P : Program} {ops : Array Oper} {rest : List Oper} {Q : Exit → Act → World → Prop} {o : Oper} {a : Act} {w0 W : World} (base e : Nat) (hgd : o.guard = none) {N : Tmp} (_hd : o.dst = some N) (s : ByteArray) {ok : Nat → Prop}
  {src dst : TypeId} {u : TypeDesc} (h1_ : P.underlying src = some u) (h2_ : P.underlying dst = some (.slice e)) (h3_ : P.underlying e = some (.int .u8)) (hex : execOp a.eval o = (convert src dst (.string s) >>= fun v => pure (Next.value v)))
  (hfresh : ok W.heap.size) (HB : Below base w0 W) (hbase : base ≤ W.heap.size) (hs : (s.size : Int) ≤ 9223372036854775807)
  (h : ∀ v1 w1, Kd.V (Kd.int .u8) e w1 base ok v1 (bytesOf s) → Below base w0 w1 → W.grownBy w1 none → (∃ b, v1.ownBlock = some b ∧ W.heap.size ≤ b) → wpList P ops Q rest (a.put o.dst v1) w1) : wpList P ops Q (o :: rest) a W := by
 have hrun : (execOp a.eval o).run P W = .ok (.value (.slice (some ⟨W.heap.size, 0, none⟩) s.size (grownCap W s.size 0 e))) (Lib.bytesWorld W e s) := by
  have kb_ := print_bytes (P := P) src dst e h1_ h2_ h3_ s W
  rw [hex]
  rw [Sem.run_bind, kb_]; rfl
 obtain ⟨cs, fr, h1, h2⟩ := conv_obj W e s (by omega)
 have hb := bytes_below (Below.refl W.heap.size W) (Nat.le_refl _) e s
 have hcap : s.size ≤ grownCap W s.size 0 e := grownCap_ge _ _ _ _
 refine Kd.event_run hgd hrun (h _ _ ⟨_, grownCap W s.size 0 e, by rw [bytesOf_length], by rw [bytesOf_length]; exact hcap, fun W' hW => ?_⟩ (bytes_below HB hbase e s) (grown_of_below hb none) ⟨W.heap.size, by simp [Value.ownBlock], Nat.le_refl _⟩)
 have hlt : W.heap.size < (Lib.bytesWorld W e s).heap.size := by rw [Lib.bytesWorld_size]; omega
 exact h2 W' ((hW _ hfresh hlt).trans h1)
/-! ### spec_ReadBlock: function 40 -/
mutual
def spec_ReadBlock.l0 : Nat → ByteArray → List Int → List Int → Int → Int → Option (Int × Int × Int × Int × List Int × List Int × List ByteArray × Int × Bool)
 | 0, _, _, _, _, _ => none
 | k + 1, x0, x4, x5, x6, x7 => if (x5.length : Int) < x7 then (if 0 ≤ x6 then (if x6 ≤ (x4.length : Int) then ((spec_ReadNumber.f k (x4.drop (x6 : Int).toNat)).bind fun bt212 => (if bt212.2 = 0 then (some (0, 0, 0, 0, ([] : List Int), ([] : List Int), ([] : List ByteArray), 0, false)) else (if x5.length < 17592186044416 then ((some (x5 ++ [bt212.1] : List Int)).bind fun y214 => (if (y214.length : Int) = 5 then (if bt212.1 > 7 then (some (0, 0, 0, 0, ([] : List Int), ([] : List Int), ([] : List ByteArray), 0, false)) else (spec_ReadBlock.l0 k x0 x4 y214 (wrap64 (x6 + bt212.2)) (wrap64 (5 + (wrap64 (2 * bt212.1)))))) else (spec_ReadBlock.l0 k x0 x4 y214 (wrap64 (x6 + bt212.2)) x7))) else (none)))) else (none)) else (none)) else (if 0 ≤ x6 then (if x6 ≤ (x4.length : Int) then ((spec_l1ReadTexts.f k (x4.drop (x6 : Int).toNat)).bind fun bt222 => (if bt222.2 = 0 then (some (0, 0, 0, 0, ([] : List Int), ([] : List Int), ([] : List ByteArray), 0, false)) else (if 0 ≤ (wrap64 (x6 + bt222.2)) then (if (wrap64 (x6 + bt222.2)) ≤ (x4.length : Int) then ((spec_ReadNumber.f k (x4.drop ((wrap64 (x6 + bt222.2)) : Int).toNat)).bind fun bt231 => (if 0 < (x5.length : Int) then (if 1 < (x5.length : Int) then (if 2 < (x5.length : Int) then (if 3 < (x5.length : Int) then (spec_ReadBlock.l1 k x0 x5 5 (rd x5 0) (rd x5 1) (rd x5 2) (rd x5 3) ([] : List Int) ([] : List Int) bt222.1 bt231.1) else (none)) else (none)) else (none)) else (none))) else (none)) else (none)))) else (none)) else (none))
def spec_ReadBlock.l1 : Nat → ByteArray → List Int → Int → Int → Int → Int → Int → List Int → List Int → List ByteArray → Int → Option (Int × Int × Int × Int × List Int × List Int × List ByteArray × Int × Bool)
 | 0, _, _, _, _, _, _, _, _, _, _, _ => none
 | k + 1, x0, x5, x15, x238000, x238001, x238002, x238003, x238004, x238005, x238006, x238007 => if x15 < (x5.length : Int) then (if 0 ≤ x15 then (if x238004.length < 17592186044416 then (if 0 ≤ (wrap64 (x15 + 1)) then (if (wrap64 (x15 + 1)) < (x5.length : Int) then (if x238005.length < 17592186044416 then (spec_ReadBlock.l1 k x0 x5 (wrap64 (x15 + 2)) x238000 x238001 x238002 x238003 (x238004 ++ [rd x5 x15]) (x238005 ++ [rd x5 (wrap64 (x15 + 1))]) x238006 x238007) else (none)) else (none)) else (none)) else (none)) else (none)) else ((spec_ShowBlock.f k x238000 x238001 x238002 x238003 x238004 x238005 x238006 x238007).bind fun t246 => (if t246.toList = x0.toList then (if x0.toList = ([] : List UInt8) then (some (0, 0, 0, 0, ([] : List Int), ([] : List Int), ([] : List ByteArray), 0, false)) else (some (x238000, x238001, x238002, x238003, x238004, x238005, x238006, x238007, true))) else (some (0, 0, 0, 0, ([] : List Int), ([] : List Int), ([] : List ByteArray), 0, false))))
end
def spec_ReadBlock.f (k : Nat) (a0 : ByteArray) : Option (Int × Int × Int × Int × List Int × List Int × List ByteArray × Int × Bool) := if (a0.size : Int) ≤ 9223372036854775807 then (spec_ReadBlock.l0 k a0 (bytesOf a0) (([] : List Int)) 0 5) else (none)
theorem spec_ReadBlock.mono_l : ∀ k, (∀ y0 y1 y2 y3 y4, LeO (spec_ReadBlock.l0 k y0 y1 y2 y3 y4) (spec_ReadBlock.l0 (k + 1) y0 y1 y2 y3 y4)) ∧ (∀ y0 y1 y2 y3 y4 y5 y6 y7 y8 y9 y10, LeO (spec_ReadBlock.l1 k y0 y1 y2 y3 y4 y5 y6 y7 y8 y9 y10) (spec_ReadBlock.l1 (k + 1) y0 y1 y2 y3 y4 y5 y6 y7 y8 y9 y10))
 | 0 => ⟨fun _ _ _ _ _ r h => by simp [spec_ReadBlock.l0] at h, fun _ _ _ _ _ _ _ _ _ _ _ r h => by simp [spec_ReadBlock.l1] at h⟩
 | k + 1 => by
  obtain ⟨ih0, ih1⟩ := spec_ReadBlock.mono_l k
  refine ⟨?_, ?_⟩
  ·intro y0 y1 y2 y3 y4
   unfold spec_ReadBlock.l0
   repeat' first
   | (with_reducible exact ih0 _ _ _ _ _)
   | (with_reducible exact ih1 _ _ _ _ _ _ _ _ _ _ _)
   | (with_reducible exact spec_ReadNumber.mono _ _)
   | (with_reducible exact spec_ShowBlock.mono _ _ _ _ _ _ _ _ _)
   | (with_reducible exact spec_l1ReadTexts.mono _ _)
   | (with_reducible exact LeO.refl _)
   | (with_reducible exact LeO.none _)
   | (with_reducible refine LeO.ite ?_ ?_)
   | (with_reducible refine LeO.bind ?_ (fun _ => ?_))
   | exact ih0 _ _ _ _ _
   | exact ih1 _ _ _ _ _ _ _ _ _ _ _
   | exact spec_ReadNumber.mono _ _
   | exact spec_ShowBlock.mono _ _ _ _ _ _ _ _ _
   | exact spec_l1ReadTexts.mono _ _
   | exact LeO.none _
   | refine LeO.ite ?_ ?_
   | refine LeO.bind ?_ (fun _ => ?_)
  ·intro y0 y1 y2 y3 y4 y5 y6 y7 y8 y9 y10
   unfold spec_ReadBlock.l1
   repeat' first
   | (with_reducible exact ih0 _ _ _ _ _)
   | (with_reducible exact ih1 _ _ _ _ _ _ _ _ _ _ _)
   | (with_reducible exact spec_ReadNumber.mono _ _)
   | (with_reducible exact spec_ShowBlock.mono _ _ _ _ _ _ _ _ _)
   | (with_reducible exact spec_l1ReadTexts.mono _ _)
   | (with_reducible exact LeO.refl _)
   | (with_reducible exact LeO.none _)
   | (with_reducible refine LeO.ite ?_ ?_)
   | (with_reducible refine LeO.bind ?_ (fun _ => ?_))
   | exact ih0 _ _ _ _ _
   | exact ih1 _ _ _ _ _ _ _ _ _ _ _
   | exact spec_ReadNumber.mono _ _
   | exact spec_ShowBlock.mono _ _ _ _ _ _ _ _ _
   | exact spec_l1ReadTexts.mono _ _
   | exact LeO.none _
   | refine LeO.ite ?_ ?_
   | refine LeO.bind ?_ (fun _ => ?_)
theorem spec_ReadBlock.mono : ∀ a0 k, LeO (spec_ReadBlock.f k a0) (spec_ReadBlock.f (k + 1) a0) := by
 intro a0 k
 obtain ⟨ih0, ih1⟩ := spec_ReadBlock.mono_l k
 unfold spec_ReadBlock.f
 repeat' first
   | (with_reducible exact ih0 _ _ _ _ _)
   | (with_reducible exact ih1 _ _ _ _ _ _ _ _ _ _ _)
   | (with_reducible exact spec_ReadNumber.mono _ _)
   | (with_reducible exact spec_ShowBlock.mono _ _ _ _ _ _ _ _ _)
   | (with_reducible exact spec_l1ReadTexts.mono _ _)
   | (with_reducible exact LeO.refl _)
   | (with_reducible exact LeO.none _)
   | (with_reducible refine LeO.ite ?_ ?_)
   | (with_reducible refine LeO.bind ?_ (fun _ => ?_))
   | exact ih0 _ _ _ _ _
   | exact ih1 _ _ _ _ _ _ _ _ _ _ _
   | exact spec_ReadNumber.mono _ _
   | exact spec_ShowBlock.mono _ _ _ _ _ _ _ _ _
   | exact spec_l1ReadTexts.mono _ _
   | exact LeO.none _
   | refine LeO.ite ?_ ?_
   | refine LeO.bind ?_ (fun _ => ?_)
def spec_ReadBlock.T20 : Bool × List (List Nat × List Nat) := (true, [([], []), ([0], [0]), ([1], [1]), ([], []), ([3], [3]), ([4], [4]), ([], []), ([6], [6]), ([7], [7]), ([], []), ([9], [9]), ([10], [10]), ([8, 11], [8, 11]), ([], []), ([], []), ([2, 5, 12, 13, 14], [2, 5, 12, 13, 14]), ([], []), ([16, 15, 0, 1, 2, 3, 4, 5, 6, 7, 8, 9, 10, 11, 12, 13, 14, 15, 16], [15, 16])])
def spec_ReadBlock.B20 : List Nat := [0, 1, 3, 0, 8, 24, 0, 64, 192, 0, 512, 1536, 4032, 0, 0, 32767, 0, 131071]
theorem spec_ReadBlock.tab20 : rtab .any (opsOf Try.f40 20) = spec_ReadBlock.T20 := by kernel_rfl
theorem spec_ReadBlock.bits20 : waitsOk spec_ReadBlock.T20.2 spec_ReadBlock.B20 = true := by kernel_rfl
def spec_ReadBlock.T24 : Bool × List (List Nat × List Nat) := (true, [([], []), ([0], [0]), ([1], [1]), ([], []), ([], []), ([3, 4], [3, 4]), ([5], [5]), ([6], [6]), ([2, 7], [2, 7]), ([0, 1, 2, 3, 4, 5, 6, 7, 8], []), ([9, 0, 1, 2, 3, 4, 5, 6, 7, 8], [9]), ([10, 8, 8, 0, 1, 2, 3, 4, 5, 6, 7, 8], [8, 10])])
def spec_ReadBlock.B24 : List Nat := [0, 1, 3, 0, 0, 24, 56, 120, 255, 511, 1023, 2047]
theorem spec_ReadBlock.tab24 : rtab .any (opsOf Try.f40 24) = spec_ReadBlock.T24 := by kernel_rfl
theorem spec_ReadBlock.bits24 : waitsOk spec_ReadBlock.T24.2 spec_ReadBlock.B24 = true := by kernel_rfl
def spec_ReadBlock.T25 : Bool × List (List Nat × List Nat) := (true, [([], []), ([0], [0]), ([1], [1]), ([], []), ([], []), ([4], [4]), ([3, 5], [3, 5]), ([6], [6]), ([7], [7]), ([2, 8], [2, 8]), ([0, 1, 2, 3, 4, 5, 6, 7, 8, 9], []), ([10, 0, 1, 2, 3, 4, 5, 6, 7, 8, 9], [10]), ([11, 9, 9, 0, 1, 2, 3, 4, 5, 6, 7, 8, 9], [9, 11])])
def spec_ReadBlock.B25 : List Nat := [0, 1, 3, 0, 0, 16, 56, 120, 248, 511, 1023, 2047, 4095]
theorem spec_ReadBlock.tab25 : rtab .any (opsOf Try.f40 25) = spec_ReadBlock.T25 := by kernel_rfl
theorem spec_ReadBlock.bits25 : waitsOk spec_ReadBlock.T25.2 spec_ReadBlock.B25 = true := by kernel_rfl
set_option maxHeartbeats 8000000 in
set_option maxRecDepth 100000 in
theorem spec_ReadBlock.calls (k : Nat) (a0 : ByteArray) (r1 : Int) (r2 : Int) (r3 : Int) (r4 : Int) (r5 : List Int) (r6 : List Int) (r7 : List ByteArray) (r8 : Int) (r9 : Bool) (w : World) (h : spec_ReadBlock.f k a0 = some (r1, r2, r3, r4, r5, r6, r7, r8, r9)) :
  Calls Try.prog 40 #[.string a0] w fun e w' => ∃ v4_ v5_ v6_ : Value, e = .returned (.tuple #[.agg #[.int .i64 r1, .int .i64 r2, .int .i64 r3, .int .i64 r4, v4_, v5_, v6_, .int .i64 r8], .bool r9]) ∧ Kd.R (Kd.int .i64) 2 w' w.heap.size (fun k_ => some k_ ≠ (v5_ : Value).ownBlock) v4_ r5 ∧ Kd.R (Kd.int .i64) 2 w' w.heap.size (fun k_ => some k_ ≠ (v4_ : Value).ownBlock) v5_ r6 ∧ Kd.R Kd.string 9 w' w.heap.size (fun _ => True) v6_ r7 ∧ Below w.heap.size w w' := by
 have hu42 := Try.underlying42
 have hu40 := Try.underlying40
 have HB := Aside0.mk (Below.refl w.heap.size w)
 have H : (if (a0.size : Int) ≤ 9223372036854775807 then (spec_ReadBlock.l0 k a0 (bytesOf a0) (([] : List Int)) 0 5) else (none)) = some (r1, r2, r3, r4, r5, r6, r7, r8, r9) := h
 clear h
 by_cases c2 : (a0.size : Int) ≤ 9223372036854775807
 ·rw [if_pos c2] at H
  have c2b0 := eq_true c2
  have c2b1 : decide ((a0.size : Int) ≤ 9223372036854775807) = true := decide_eq_true c2
  try have c2b2 : (9223372036854775807 < (a0.size : Int)) = False := eq_false (Nat.not_lt.2 c2)
  clear c2
  obtain ⟨y201, hy201⟩ : ∃ y_ : List Int, y_ = (bytesOf a0) := ⟨_, rfl⟩
  replace H : (spec_ReadBlock.l0 k a0 y201 (([] : List Int)) 0 5) = some (r1, r2, r3, r4, r5, r6, r7, r8, r9) := by first | (rw [hy201]; with_reducible exact H) | (have H2_ := (Option.bind_some _ _).symm.trans H; rw [hy201]; with_reducible exact H2_) | (have H2_ := (Option.bind_some _ _).symm.trans H; with_reducible exact H2_) | with_reducible exact H | (rw [hy201]; exact H) | exact H
  have Ny201 := Aside0.mk hy201
  clear hy201
  obtain ⟨y204, hy204⟩ : ∃ y_ : List Int, y_ = (([] : List Int)) := ⟨_, rfl⟩
  replace H : (spec_ReadBlock.l0 k a0 y201 y204 0 5) = some (r1, r2, r3, r4, r5, r6, r7, r8, r9) := by first | (rw [hy204]; with_reducible exact H) | (have H2_ := (Option.bind_some _ _).symm.trans H; rw [hy204]; with_reducible exact H2_) | (have H2_ := (Option.bind_some _ _).symm.trans H; with_reducible exact H2_) | with_reducible exact H | (rw [hy204]; exact H) | exact H
  have Ny204 := Aside0.mk hy204
  clear hy204
  have H' := Aside0.mk H
  clear H
  go_enter Try.func40, Try.ntmps40
  go_wp2_with (first | ((with_reducible refine gate_dst (N := 2) rfl ?_); refine box_event ?hg (N := 2) ?hd (cs := #[.int .i64 0, .int .i64 0, .int .i64 0, .int .i64 0, .slice none 0 0, .slice none 0 0, .slice none 0 0, .int .i64 0]) (t := 42) ?hr ?_; (case hd => rfl); (case hg => rfl); (case hr => first | (go_simp; done) | (go_simp; rfl)); intro gb200 hg w3 hbox hb; have n0_ := Aside0.mk (below_step (by repeat (first | (with_reducible first | exact HB.out | apply below_alloc | apply pw_below_drewN | apply below_drew1) | exact HB.out)) hb); have n1_ := Aside0.mk (hbox); have n2_ := Aside0.mk ((by rw [hg]; exact (below_size (by repeat (first | (with_reducible first | exact HB.out | apply below_alloc | apply pw_below_drewN | apply below_drew1) | exact HB.out))) : w.heap.size ≤ gb200)); have n3_ := Aside0.mk ((by rw [hg]; exact (below_size (by repeat (first | (with_reducible first | exact HB.out | apply below_alloc | apply pw_below_drewN | apply below_drew1) | exact HB.out))) : w.heap.size ≤ gb200)); clear HB; have HB := n0_; have BK200 := n1_; have GW200 := n2_; have GE200 := n3_; clear n0_ n1_ n2_ n3_; clear hb hbox hg) | ((with_reducible refine gate_dst (N := 17) rfl ?_); refine Kd.V_conv _ 5 ?hg (N := 17) ?hd a0 (ok := (fun k_ => k_ ≠ gb200)) Try.underlying9 Try.underlying83 Try.underlying5 ?hr ((show ∀ k_, w3.heap.size ≤ k_ → (fun k_ => k_ ≠ gb200) k_ from fun k_ hk => Kd.freshB (g := gb200) (o := .cells #[.int .i64 0, .int .i64 0, .int .i64 0, .int .i64 0, .slice none 0 0, .slice none 0 0, .slice none 0 0, .int .i64 0] 42 (0, 0)) (by (with_reducible repeat (first | refine blk_drewN ?_ _ | refine blk_drew ?_ | refine blk_alloc ?_ _)); exact BK200.out) k_ hk) _ (Nat.le_refl _)) (Below.refl _ _) (Nat.le_refl _) (of_decide_eq_true (by first | (with_reducible assumption) | assumption)) ?_; (case hd => rfl); (case hg => rfl); (case hr => rfl); intro v202 w4 ho5 hb hg_ hnew_; clear hg_ hnew_; (first | rw [← Ny201.out] at ho5 | (simp only [Int.reduceToNat] at ho5; rw [← Ny201.out] at ho5)); have n0_ := Aside0.mk (Kd.V_lower ho5 (below_size (by repeat (first | (with_reducible first | exact HB.out | apply below_alloc | apply pw_below_drewN | apply below_drew1 | refine below_set ?_ GE200.out) | exact HB.out)))); have n1_ := Aside0.mk (blk_below (g := gb200) (o := .cells #[.int .i64 0, .int .i64 0, .int .i64 0, .int .i64 0, .slice none 0 0, .slice none 0 0, .slice none 0 0, .int .i64 0] 42 (0, 0)) (by (with_reducible repeat (first | refine blk_drewN ?_ _ | refine blk_drew ?_ | refine blk_alloc ?_ _)); exact BK200.out) hb); have n2_ := Aside0.mk (below_step (by repeat (first | (with_reducible first | exact HB.out | apply below_alloc | apply pw_below_drewN | apply below_drew1 | refine below_set ?_ GE200.out) | exact HB.out)) hb); clear BK200; clear HB; have HO203 := n0_; have BK200 := n1_; have HB := n2_; clear n0_ n1_ n2_; clear hb ho5) | ((with_reducible refine gate_dst (N := 18) rfl ?_); refine Kd.R_lit (Kd.int .i64) _ 2 ?hg (N := 18) ?hd (xs := ([] : List Int)) (inner := []) (ok := fun _ => True) (okp := fun _ => True) ?hr ?hp (fun _ hk => hk) trivial (Below.refl _ _) (Nat.le_refl _) (by simp) ?_; (case hd => rfl); (case hg => rfl); (case hr => first | (go_simp; done) | (go_simp; rfl)); (case hp => exact (Reps.none _ _)); intro v205 w6 ho7 hb hg_ hnew_; clear hg_ hnew_; (first | rw [← Ny204.out] at ho7 | (simp only [Int.reduceToNat] at ho7; rw [← Ny204.out] at ho7)); have n0_ := Aside0.mk (Kd.V_elder' (by (with_reducible repeat (first | apply Kd.V_alloc | apply Kd.V_drewN | apply Kd.V_drew)); exact HO203.out) (Kd.R_base ho7) hb); have n1_ := Aside0.mk (Kd.R_lower ho7 (below_size (by repeat (first | (with_reducible first | exact HB.out | apply below_alloc | apply pw_below_drewN | apply below_drew1 | refine below_set ?_ GE200.out) | exact HB.out)))); have n2_ := Aside0.mk (blk_below (g := gb200) (o := .cells #[.int .i64 0, .int .i64 0, .int .i64 0, .int .i64 0, .slice none 0 0, .slice none 0 0, .slice none 0 0, .int .i64 0] 42 (0, 0)) (by (with_reducible repeat (first | refine blk_drewN ?_ _ | refine blk_drew ?_ | refine blk_alloc ?_ _)); exact BK200.out) hb); have n3_ := Aside0.mk (below_step (by repeat (first | (with_reducible first | exact HB.out | apply below_alloc | apply pw_below_drewN | apply below_drew1 | refine below_set ?_ GE200.out) | exact HB.out)) hb); clear HO203; clear BK200; clear HB; have HO203 := n0_; have HO206 := n1_; have BK200 := n2_; have HB := n3_; clear n0_ n1_ n2_ n3_; clear hb ho7))
  go_loopg [5, 6, 7] k (fun kq v5 v6 v7 w' => ∃ (x5_1 : List Int) (x6_1 : Int) (x7_1 : Int) (x201000_1 : Int) (x201001_1 : Int) (x201002_1 : Int) (x201003_1 : Int) (x201007_1 : Int), v6 = .int .i64 x6_1 ∧ v7 = .int .i64 x7_1 ∧ Aside0 (spec_ReadBlock.l0 kq a0 y201 x5_1 x6_1 x7_1 = some (r1, r2, r3, r4, r5, r6, r7, r8, r9)) ∧ Aside0 (kq ≤ k) ∧ Aside0 (Kd.V (Kd.int .u8) 5 w' w.heap.size (fun k_ => some k_ ≠ (v5 : Value).ownBlock ∧ k_ ≠ gb200) v202 y201) ∧ Aside0 (Kd.R (Kd.int .i64) 2 w' w.heap.size (fun _ => True) v5 x5_1) ∧ Aside0 (w'.heap[gb200]? = some (.cells #[.int .i64 x201000_1, .int .i64 x201001_1, .int .i64 x201002_1, .int .i64 x201003_1, (.slice none 0 0), (.slice none 0 0), (.slice none 0 0), .int .i64 x201007_1] 42 (0, 0))) ∧ Aside0 (Below w.heap.size w w'))
  case atStart => exact ⟨(y204), (0), (5), (0), (0), (0), (0), (0), (by first | rfl | (simp; done) | (simp [*]; done)), (by first | rfl | (simp; done) | (simp [*]; done)), H', ⟨Nat.le_refl _⟩, ⟨by (with_reducible repeat (first | apply Kd.V_alloc | apply Kd.V_drewN | apply Kd.V_drew)); exact Kd.V_mono HO203.out (fun _ hk => And.intro hk.2 hk.1)⟩, ⟨by (with_reducible repeat (first | apply Kd.R_alloc | apply Kd.R_drewN | apply Kd.R_drew)); exact HO206.out⟩, ⟨by (with_reducible repeat (first | refine blk_drewN ?_ _ | refine blk_drew ?_ | refine blk_alloc ?_ _)); exact BK200.out⟩, ⟨by repeat (first | (with_reducible first | exact HB.out | apply below_alloc | apply pw_below_drewN | apply below_drew1 | refine below_set ?_ GE200.out) | exact HB.out)⟩⟩
  case round =>
   clear H'
   try clear c2
   try clear c2b0
   try clear c2b1
   try clear c2b2
   try clear p2
   try clear c4
   obtain ⟨x5_1, x6_1, x7_1, x201000_1, x201001_1, x201002_1, x201003_1, x201007_1, rfl, rfl, HA, HK1, HO_4, HO_5, BK200, HB⟩ := hrel
   cases gk with
   | zero => exact absurd HA.out (by simp [spec_ReadBlock.l0])
   | succ k1 =>
    have H := HA.out
    clear HA
    simp only [spec_ReadBlock.l0] at H
    by_cases c8 : (x5_1.length : Int) < x7_1
    ·rw [if_pos c8] at H
     have c8b0 : decide ((x5_1.length : Int) < x7_1) = true := decide_eq_true c8
     clear c8
     by_cases c9 : 0 ≤ x6_1
     ·rw [if_pos c9] at H
      have c9b0 := eq_true c9
      have c9b1 : decide (0 ≤ x6_1) = true := decide_eq_true c9
      clear c9
      by_cases c10 : x6_1 ≤ (y201.length : Int)
      ·rw [if_pos c10] at H
       have c10b0 := eq_true c10
       have c10b1 : decide (x6_1 ≤ (y201.length : Int)) = true := decide_eq_true c10
       clear c10
       obtain ⟨y207, hy207⟩ : ∃ y_ : List Int, y_ = (y201.drop (x6_1 : Int).toNat) := ⟨_, rfl⟩
       replace H : ((spec_ReadNumber.f k1 y207).bind fun bt212 => (if bt212.2 = 0 then (some (0, 0, 0, 0, ([] : List Int), ([] : List Int), ([] : List ByteArray), 0, false)) else (if x5_1.length < 17592186044416 then ((some (x5_1 ++ [bt212.1] : List Int)).bind fun y214 => (if (y214.length : Int) = 5 then (if bt212.1 > 7 then (some (0, 0, 0, 0, ([] : List Int), ([] : List Int), ([] : List ByteArray), 0, false)) else (spec_ReadBlock.l0 k1 a0 y201 y214 (wrap64 (x6_1 + bt212.2)) (wrap64 (5 + (wrap64 (2 * bt212.1)))))) else (spec_ReadBlock.l0 k1 a0 y201 y214 (wrap64 (x6_1 + bt212.2)) x7_1))) else (none)))) = some (r1, r2, r3, r4, r5, r6, r7, r8, r9) := by first | (rw [hy207]; with_reducible exact H) | (have H2_ := (Option.bind_some _ _).symm.trans H; rw [hy207]; with_reducible exact H2_) | (have H2_ := (Option.bind_some _ _).symm.trans H; with_reducible exact H2_) | with_reducible exact H | (rw [hy207]; exact H) | exact H
       have Ny207 := Aside0.mk hy207
       clear hy207
       replace H := Option.bind_eq_some_iff.mp H
       obtain ⟨⟨t212, t213⟩, A110, H⟩ := H
       replace H : (if t213 = 0 then (some (0, 0, 0, 0, ([] : List Int), ([] : List Int), ([] : List ByteArray), 0, false)) else (if x5_1.length < 17592186044416 then ((some (x5_1 ++ [t212] : List Int)).bind fun y214 => (if (y214.length : Int) = 5 then (if t212 > 7 then (some (0, 0, 0, 0, ([] : List Int), ([] : List Int), ([] : List ByteArray), 0, false)) else (spec_ReadBlock.l0 k1 a0 y201 y214 (wrap64 (x6_1 + t213)) (wrap64 (5 + (wrap64 (2 * t212)))))) else (spec_ReadBlock.l0 k1 a0 y201 y214 (wrap64 (x6_1 + t213)) x7_1))) else (none))) = some (r1, r2, r3, r4, r5, r6, r7, r8, r9) := H
       have A11 := Aside0.mk A110
       clear A110
       have HC12 := Aside0.mk H
       clear H
       obtain ⟨Ao13, co13, eo13⟩ := Kd.R_slice HO_5.out
       subst eo13
       obtain ⟨Ao15, co15, eo15⟩ := Kd.V_slice HO_4.out
       subst eo15
       have q14 : (x6_1 : Int) ≤ ((y201.length : Int) : Int) := of_decide_eq_true (by first | (with_reducible assumption) | assumption)
       obtain ⟨i014, hi014, _, hsz14, _⟩ := info_parts info5
       have hroom14 : y201.length ≤ co15 := (Kd.V_reads' HO_4.out).2.1
       have hC14 : Kd.F (Kd.int .u8) _ _ Ao15 y201.length y201 := (Kd.V_at (base := w.heap.size) HO_4.out).2.2
       have q014 : (0 : Int) ≤ (x6_1 : Int) := of_decide_eq_true (by first | (with_reducible assumption) | assumption)
       have hcut14 := cut_from (P := Try.prog) 83 5 .i64 Try.underlying83 hi014 1 hsz14 Ao15 y201.length co15 x6_1 q014 q14
       have hr14 := Kd.F_cut (m := (x6_1 : Int).toNat) (c := co15) hC14 (by omega) hroom14
       obtain ⟨A14, hA14⟩ : ∃ A1, A1 = (if co15 = (x6_1 : Int).toNat then Ao15 else (Ao15 : Option Addr).map (·.add ((x6_1 : Int).toNat * 1))) := ⟨_, rfl⟩
       obtain ⟨c14, hc14⟩ : ∃ c1, c1 = co15 - (x6_1 : Int).toNat := ⟨_, rfl⟩
       have hy14 : y207.length = y201.length - (x6_1 : Int).toNat := (by rw [Ny207.out, List.length_drop] <;> omega)
       rw [show (y201).drop (x6_1 : Int).toNat = y207 from Ny207.out.symm] at hr14
       replace hr14 : Kd.F (Kd.int .u8) _ _ A14 y207.length y207 := (by rw [hA14]; exact hr14)
       rw [← hy14, ← hA14, ← hc14] at hcut14
       have HO211 := Aside0.mk (show Kd.V (Kd.int .u8) 5 _ w.heap.size _ (.slice A14 y207.length c14) y207 from Kd.V_mk (by rw [hy14, hc14]; exact Nat.sub_le_sub_right hroom14 _) hr14)
       have HC211 := Aside0.mk (show y207.length ≤ c14 from by rw [hy14, hc14]; exact Nat.sub_le_sub_right hroom14 _)
       clear hr14 hC14 hroom14 hi014 hsz14 hc14
       have KY14 := Aside0.mk hy14
       have KA14 := Aside0.mk hA14
       clear hy14 hA14
       replace q14 := eq_true q14
       go_upto_if 31 with (first | ((with_reducible refine gate_callee (f := 101) rfl ?_); refine goesL_ (some 27) rfl rfl Try.func101 (by kernel_rfl) rfl #[.slice A14 y207.length c14] rfl (by (try simp only [List.map_toArray, List.map_cons, List.map_nil]); first | done | rfl | (simp only [List.length_drop, List.length_take]; rfl)) ?_; (with_reducible refine (spec_ReadNumber.calls k1 _ _ y207 t212 t213 _ ?side1 ?side2 A11.out).mono ?_); (case side1 => repeat (first | exact (Kd.V_reads' HO211.out).2.2 | (with_reducible refine Kd.C_alloc ?_ _) | (with_reducible refine Kd.C_drewN ?_ _) | (with_reducible refine Kd.C_drew ?_))); (case side2 => exact (Kd.V_reads' HO211.out).2.1); rintro e w' ⟨rfl, ⟨nd, rfl⟩⟩; refine ⟨_, rfl, ?_⟩))
       (try simp only [Act.put, List.setIfInBounds_toArray, List.set_cons_zero, List.set_cons_succ])
       (try (rw [drewN_self wr]; generalize hq_ : World.drewN wr _ = wr; have n0_ := Aside0.mk (Kd.V_at hq_ HO_4.out); have n1_ := Aside0.mk (Kd.R_at hq_ HO_5.out); have n2_ := Aside0.mk (blk_at hq_ BK200.out); have n3_ := Aside0.mk (below_at hq_ HB.out); clear hq_ HO_4 HO_5 BK200 HB; have HO_4 := n0_; have HO_5 := n1_; have BK200 := n2_; have HB := n3_; clear n0_ n1_ n2_ n3_))
       have H := HC12.out
       clear HC12
       by_cases c16 : t213 = 0
       ·rw [if_pos c16] at H
        have c16b0 : (t213 == 0) = true := beq_iff_eq.mpr c16
        have c16b1 : (t213 != 0) = false := bne_eq_false_iff_eq.mpr c16
        clear c16
        (first | rw [c16b0] | (simp only [i64_w, i32_w]; rw [c16b0]) | skip)
        try rw [c16b1]
        simp only [Option.some.injEq, Prod.mk.injEq] at H
        obtain ⟨rfl, rfl, rfl, rfl, rfl, rfl, rfl, rfl, rfl⟩ := H
        have hcz17_0 : wr.cell? ⟨gb200, 0, none⟩ = some (.int .i64 x201000_1) := (blk_cell BK200.out 0).trans rfl
        have hcz17_1 : wr.cell? ⟨gb200, 1, none⟩ = some (.int .i64 x201001_1) := (blk_cell BK200.out 1).trans rfl
        have hcz17_2 : wr.cell? ⟨gb200, 2, none⟩ = some (.int .i64 x201002_1) := (blk_cell BK200.out 2).trans rfl
        have hcz17_3 : wr.cell? ⟨gb200, 3, none⟩ = some (.int .i64 x201003_1) := (blk_cell BK200.out 3).trans rfl
        have hcz17_4 : wr.cell? ⟨gb200, 4, none⟩ = some (.slice none 0 0) := (blk_cell BK200.out 4).trans rfl
        have hcz17_5 : wr.cell? ⟨gb200, 5, none⟩ = some (.slice none 0 0) := (blk_cell BK200.out 5).trans rfl
        have hcz17_6 : wr.cell? ⟨gb200, 6, none⟩ = some (.slice none 0 0) := (blk_cell BK200.out 6).trans rfl
        have hcz17_7 : wr.cell? ⟨gb200, 7, none⟩ = some (.int .i64 x201007_1) := (blk_cell BK200.out 7).trans rfl
        have hfz17_0 := blk_frozen BK200.out 0
        have hfz17_1 := blk_frozen BK200.out 1
        have hfz17_2 := blk_frozen BK200.out 2
        have hfz17_3 := blk_frozen BK200.out 3
        have hfz17_4 := blk_frozen BK200.out 4
        have hfz17_5 := blk_frozen BK200.out 5
        have hfz17_6 := blk_frozen BK200.out 6
        have hfz17_7 := blk_frozen BK200.out 7
        go_wp2
        refine bodyPost_ret (results_ct rfl _ _ gb200 42 #[.int .i64 0, .int .i64 0, .int .i64 0, .int .i64 0, .slice none 0 0, .slice none 0 0, .slice none 0 0, .int .i64 0] (0, 0) _ rfl (by (with_reducible repeat (first | refine blk_drewN ?_ _ | refine blk_drew ?_ | refine blk_alloc ?_ _)); refine blk_put (cs := #[.int .i64 0, .int .i64 0, .int .i64 0, .int .i64 0, .slice none 0 0, .slice none 0 0, .slice none 0 0, .int .i64 x201007_1]) ?_ 7 _ rfl; (with_reducible repeat (first | refine blk_drewN ?_ _ | refine blk_drew ?_ | refine blk_alloc ?_ _)); refine blk_put (cs := #[.int .i64 0, .int .i64 0, .int .i64 0, .int .i64 0, .slice none 0 0, .slice none 0 0, .slice none 0 0, .int .i64 x201007_1]) ?_ 6 _ rfl; (with_reducible repeat (first | refine blk_drewN ?_ _ | refine blk_drew ?_ | refine blk_alloc ?_ _)); refine blk_put (cs := #[.int .i64 0, .int .i64 0, .int .i64 0, .int .i64 0, .slice none 0 0, .slice none 0 0, .slice none 0 0, .int .i64 x201007_1]) ?_ 5 _ rfl; (with_reducible repeat (first | refine blk_drewN ?_ _ | refine blk_drew ?_ | refine blk_alloc ?_ _)); refine blk_put (cs := #[.int .i64 0, .int .i64 0, .int .i64 0, .int .i64 0, .slice none 0 0, .slice none 0 0, .slice none 0 0, .int .i64 x201007_1]) ?_ 4 _ rfl; (with_reducible repeat (first | refine blk_drewN ?_ _ | refine blk_drew ?_ | refine blk_alloc ?_ _)); refine blk_put (cs := #[.int .i64 0, .int .i64 0, .int .i64 0, .int .i64 x201003_1, .slice none 0 0, .slice none 0 0, .slice none 0 0, .int .i64 x201007_1]) ?_ 3 _ rfl; (with_reducible repeat (first | refine blk_drewN ?_ _ | refine blk_drew ?_ | refine blk_alloc ?_ _)); refine blk_put (cs := #[.int .i64 0, .int .i64 0, .int .i64 x201002_1, .int .i64 x201003_1, .slice none 0 0, .slice none 0 0, .slice none 0 0, .int .i64 x201007_1]) ?_ 2 _ rfl; (with_reducible repeat (first | refine blk_drewN ?_ _ | refine blk_drew ?_ | refine blk_alloc ?_ _)); refine blk_put (cs := #[.int .i64 0, .int .i64 x201001_1, .int .i64 x201002_1, .int .i64 x201003_1, .slice none 0 0, .slice none 0 0, .slice none 0 0, .int .i64 x201007_1]) ?_ 1 _ rfl; (with_reducible repeat (first | refine blk_drewN ?_ _ | refine blk_drew ?_ | refine blk_alloc ?_ _)); refine blk_put (cs := #[.int .i64 x201000_1, .int .i64 x201001_1, .int .i64 x201002_1, .int .i64 x201003_1, .slice none 0 0, .slice none 0 0, .slice none 0 0, .int .i64 x201007_1]) ?_ 0 _ rfl; (with_reducible repeat (first | refine blk_drewN ?_ _ | refine blk_drew ?_ | refine blk_alloc ?_ _)); exact BK200.out) Try.underlying42 rfl (by kernel_rfl)) rfl ?_
        exact ⟨_, _, _, by first | rfl | (simp [errW_none, errW_some] <;> rfl) | (simp [*, errW_none, errW_some] <;> rfl), by first | exact Kd.R_nil _ _ _ _ _ | exact Kd.N_nil _ _ _ _ _ | exact Kd.V_nil _ _ _ _ _ | exact Kd.Q_nil _ _ _ _ _ | exact Kd.S_nil _ _ _ _ _, by first | exact Kd.R_nil _ _ _ _ _ | exact Kd.N_nil _ _ _ _ _ | exact Kd.V_nil _ _ _ _ _ | exact Kd.Q_nil _ _ _ _ _ | exact Kd.S_nil _ _ _ _ _, by first | exact Kd.R_nil _ _ _ _ _ | exact Kd.N_nil _ _ _ _ _ | exact Kd.V_nil _ _ _ _ _ | exact Kd.Q_nil _ _ _ _ _ | exact Kd.S_nil _ _ _ _ _, by repeat (first | (with_reducible first | exact HB.out | apply below_alloc | apply pw_below_drewN | apply below_drew1 | refine below_set ?_ GE200.out) | exact HB.out)⟩
       ·rw [if_neg c16] at H
        have c16b0 : (t213 == 0) = false := beq_eq_false_iff_ne.mpr c16
        have c16b1 : (t213 != 0) = true := bne_iff_ne.mpr c16
        (first | rw [c16b0] | (simp only [i64_w, i32_w]; rw [c16b0]) | skip)
        try rw [c16b1]
        by_cases c18 : x5_1.length < 17592186044416
        ·rw [if_pos c18] at H
         have LMc18 := Aside0.mk c18
         clear c18
         obtain ⟨y214, hy214⟩ : ∃ y_ : List Int, y_ = (x5_1 ++ [t212]) := ⟨_, rfl⟩
         replace H : (if (y214.length : Int) = 5 then (if t212 > 7 then (some (0, 0, 0, 0, ([] : List Int), ([] : List Int), ([] : List ByteArray), 0, false)) else (spec_ReadBlock.l0 k1 a0 y201 y214 (wrap64 (x6_1 + t213)) (wrap64 (5 + (wrap64 (2 * t212)))))) else (spec_ReadBlock.l0 k1 a0 y201 y214 (wrap64 (x6_1 + t213)) x7_1)) = some (r1, r2, r3, r4, r5, r6, r7, r8, r9) := by first | (rw [hy214]; with_reducible exact H) | (have H2_ := (Option.bind_some _ _).symm.trans H; rw [hy214]; with_reducible exact H2_) | (have H2_ := (Option.bind_some _ _).symm.trans H; with_reducible exact H2_) | with_reducible exact H | (rw [hy214]; exact H) | exact H
         have Ny214 := Aside0.mk hy214
         clear hy214
         have HC19 := Aside0.mk H
         clear H
         go_upto_if 42 with (first | ((with_reducible refine gate_builtin (b := .append) (xs := #[.tmp 33, .tmp 35]) rfl ?_); at_builtin; refine Kd.R_append (Kd.int .i64) (w0 := w) w.heap.size rfl (.tmp 33) (.tmp 35) 33 2 (.int .i64 0) 8 rfl Try.underlying33 info2 rfl (by decide) (by omega) (.slice Ao13 x5_1.length co13) x5_1 t212 [.int .i64 t212] (fun _ => True) (fun _ => False) rfl rfl ?aP (fun _ hk => hk.elim) ?aF ?aO ?aB ?aS ?aL ?_; (case aP => exact rfl); (case aB => exact (by repeat (first | (with_reducible first | exact HB.out | apply below_alloc | apply pw_below_drewN | apply below_drew1 | refine below_set ?_ GE200.out) | exact HB.out))); (case aF => exact (fun _ _ => trivial)); (case aO => exact (by (with_reducible repeat (first | apply Kd.R_alloc | apply Kd.R_drewN | apply Kd.R_drew)); exact HO_5.out)); (case aS => exact (below_size (by repeat (first | (with_reducible first | exact HB.out | apply below_alloc | apply pw_below_drewN | apply below_drew1 | refine below_set ?_ GE200.out) | exact HB.out)))); (case aL => have := LMc18.out; omega); intro v215 w20 ho hb hg hat; rw [← Ny214.out] at ho; have n0_ := Aside0.mk (Kd.V_afterv (ok := (fun k_ => k_ ≠ gb200)) (by (with_reducible repeat (first | apply Kd.V_alloc | apply Kd.V_drewN | apply Kd.V_drew)); exact Kd.V_mono HO_4.out (fun _ hk => And.intro hk.2 hk.1)) hg hat); have n1_ := Aside0.mk (blk_grown (g := gb200) (o := .cells #[.int .i64 x201000_1, .int .i64 x201001_1, .int .i64 x201002_1, .int .i64 x201003_1, .slice none 0 0, .slice none 0 0, .slice none 0 0, .int .i64 x201007_1] 42 (0, 0)) (by (with_reducible repeat (first | refine blk_drewN ?_ _ | refine blk_drew ?_ | refine blk_alloc ?_ _)); exact BK200.out) hg (Kd.R_ne HO_5.out BK200.out (by decide))); have n2_ := Aside0.mk (hb); have n3_ := Aside0.mk (ho); clear HO_4; clear BK200; clear HB; clear HO_5; have HO_4 := n0_; have BK200 := n1_; have HB := n2_; have HO216 := n3_; clear n0_ n1_ n2_ n3_; clear ho hb hg hat; obtain ⟨Ao21, co21, eo21⟩ := Kd.R_slice HO216.out; subst eo21))
         (try simp only [Act.put, List.setIfInBounds_toArray, List.set_cons_zero, List.set_cons_succ])
         have H := HC19.out
         clear HC19
         by_cases c22 : (y214.length : Int) = 5
         ·rw [if_pos c22] at H
          have c22b0 : ((y214.length : Int) == 5) = true := beq_iff_eq.mpr c22
          have c22b1 : ((y214.length : Int) != 5) = false := bne_eq_false_iff_eq.mpr c22
          clear c22
          (first | rw [c22b0] | (simp only [i64_w, i32_w]; rw [c22b0]) | skip)
          try rw [c22b1]
          by_cases c23 : t212 > 7
          ·rw [if_pos c23] at H
           have c23b0 : decide (7 < t212) = true := decide_eq_true c23
           clear c23
           simp only [Option.some.injEq, Prod.mk.injEq] at H
           obtain ⟨rfl, rfl, rfl, rfl, rfl, rfl, rfl, rfl, rfl⟩ := H
           have hcz24_0 : w20.cell? ⟨gb200, 0, none⟩ = some (.int .i64 x201000_1) := (blk_cell BK200.out 0).trans rfl
           have hcz24_1 : w20.cell? ⟨gb200, 1, none⟩ = some (.int .i64 x201001_1) := (blk_cell BK200.out 1).trans rfl
           have hcz24_2 : w20.cell? ⟨gb200, 2, none⟩ = some (.int .i64 x201002_1) := (blk_cell BK200.out 2).trans rfl
           have hcz24_3 : w20.cell? ⟨gb200, 3, none⟩ = some (.int .i64 x201003_1) := (blk_cell BK200.out 3).trans rfl
           have hcz24_4 : w20.cell? ⟨gb200, 4, none⟩ = some (.slice none 0 0) := (blk_cell BK200.out 4).trans rfl
           have hcz24_5 : w20.cell? ⟨gb200, 5, none⟩ = some (.slice none 0 0) := (blk_cell BK200.out 5).trans rfl
           have hcz24_6 : w20.cell? ⟨gb200, 6, none⟩ = some (.slice none 0 0) := (blk_cell BK200.out 6).trans rfl
           have hcz24_7 : w20.cell? ⟨gb200, 7, none⟩ = some (.int .i64 x201007_1) := (blk_cell BK200.out 7).trans rfl
           have hfz24_0 := blk_frozen BK200.out 0
           have hfz24_1 := blk_frozen BK200.out 1
           have hfz24_2 := blk_frozen BK200.out 2
           have hfz24_3 := blk_frozen BK200.out 3
           have hfz24_4 := blk_frozen BK200.out 4
           have hfz24_5 := blk_frozen BK200.out 5
           have hfz24_6 := blk_frozen BK200.out 6
           have hfz24_7 := blk_frozen BK200.out 7
           go_wp2
           refine bodyPost_ret (results_ct rfl _ _ gb200 42 #[.int .i64 0, .int .i64 0, .int .i64 0, .int .i64 0, .slice none 0 0, .slice none 0 0, .slice none 0 0, .int .i64 0] (0, 0) _ rfl (by (with_reducible repeat (first | refine blk_drewN ?_ _ | refine blk_drew ?_ | refine blk_alloc ?_ _)); refine blk_put (cs := #[.int .i64 0, .int .i64 0, .int .i64 0, .int .i64 0, .slice none 0 0, .slice none 0 0, .slice none 0 0, .int .i64 x201007_1]) ?_ 7 _ rfl; (with_reducible repeat (first | refine blk_drewN ?_ _ | refine blk_drew ?_ | refine blk_alloc ?_ _)); refine blk_put (cs := #[.int .i64 0, .int .i64 0, .int .i64 0, .int .i64 0, .slice none 0 0, .slice none 0 0, .slice none 0 0, .int .i64 x201007_1]) ?_ 6 _ rfl; (with_reducible repeat (first | refine blk_drewN ?_ _ | refine blk_drew ?_ | refine blk_alloc ?_ _)); refine blk_put (cs := #[.int .i64 0, .int .i64 0, .int .i64 0, .int .i64 0, .slice none 0 0, .slice none 0 0, .slice none 0 0, .int .i64 x201007_1]) ?_ 5 _ rfl; (with_reducible repeat (first | refine blk_drewN ?_ _ | refine blk_drew ?_ | refine blk_alloc ?_ _)); refine blk_put (cs := #[.int .i64 0, .int .i64 0, .int .i64 0, .int .i64 0, .slice none 0 0, .slice none 0 0, .slice none 0 0, .int .i64 x201007_1]) ?_ 4 _ rfl; (with_reducible repeat (first | refine blk_drewN ?_ _ | refine blk_drew ?_ | refine blk_alloc ?_ _)); refine blk_put (cs := #[.int .i64 0, .int .i64 0, .int .i64 0, .int .i64 x201003_1, .slice none 0 0, .slice none 0 0, .slice none 0 0, .int .i64 x201007_1]) ?_ 3 _ rfl; (with_reducible repeat (first | refine blk_drewN ?_ _ | refine blk_drew ?_ | refine blk_alloc ?_ _)); refine blk_put (cs := #[.int .i64 0, .int .i64 0, .int .i64 x201002_1, .int .i64 x201003_1, .slice none 0 0, .slice none 0 0, .slice none 0 0, .int .i64 x201007_1]) ?_ 2 _ rfl; (with_reducible repeat (first | refine blk_drewN ?_ _ | refine blk_drew ?_ | refine blk_alloc ?_ _)); refine blk_put (cs := #[.int .i64 0, .int .i64 x201001_1, .int .i64 x201002_1, .int .i64 x201003_1, .slice none 0 0, .slice none 0 0, .slice none 0 0, .int .i64 x201007_1]) ?_ 1 _ rfl; (with_reducible repeat (first | refine blk_drewN ?_ _ | refine blk_drew ?_ | refine blk_alloc ?_ _)); refine blk_put (cs := #[.int .i64 x201000_1, .int .i64 x201001_1, .int .i64 x201002_1, .int .i64 x201003_1, .slice none 0 0, .slice none 0 0, .slice none 0 0, .int .i64 x201007_1]) ?_ 0 _ rfl; (with_reducible repeat (first | refine blk_drewN ?_ _ | refine blk_drew ?_ | refine blk_alloc ?_ _)); exact BK200.out) Try.underlying42 rfl (by kernel_rfl)) rfl ?_
           exact ⟨_, _, _, by first | rfl | (simp [errW_none, errW_some] <;> rfl) | (simp [*, errW_none, errW_some] <;> rfl), by first | exact Kd.R_nil _ _ _ _ _ | exact Kd.N_nil _ _ _ _ _ | exact Kd.V_nil _ _ _ _ _ | exact Kd.Q_nil _ _ _ _ _ | exact Kd.S_nil _ _ _ _ _, by first | exact Kd.R_nil _ _ _ _ _ | exact Kd.N_nil _ _ _ _ _ | exact Kd.V_nil _ _ _ _ _ | exact Kd.Q_nil _ _ _ _ _ | exact Kd.S_nil _ _ _ _ _, by first | exact Kd.R_nil _ _ _ _ _ | exact Kd.N_nil _ _ _ _ _ | exact Kd.V_nil _ _ _ _ _ | exact Kd.Q_nil _ _ _ _ _ | exact Kd.S_nil _ _ _ _ _, by repeat (first | (with_reducible first | exact HB.out | apply below_alloc | apply pw_below_drewN | apply below_drew1 | refine below_set ?_ GE200.out) | exact HB.out)⟩
          ·rw [if_neg c23] at H
           have c23b0 : decide (7 < t212) = false := decide_eq_false c23
           clear c23
           have H' := Aside0.mk H
           clear H
           go_wp2
           go_roundg k1
           case measure => have := HK1.out; omega
           case rel => exact ⟨(y214), (wrap64 (x6_1 + t213)), (wrap64 (5 + (wrap64 (2 * t212)))), (x201000_1), (x201001_1), (x201002_1), (x201003_1), (x201007_1), (by first | rfl | (simp; done) | (simp [*]; done)), (by first | rfl | (simp; done) | (simp [*]; done)), H', ⟨by have := HK1.out; omega⟩, ⟨by (with_reducible repeat (first | apply Kd.V_alloc | apply Kd.V_drewN | apply Kd.V_drew)); exact Kd.V_mono HO_4.out (fun _ hk => And.intro hk.2 hk.1)⟩, ⟨by (with_reducible repeat (first | apply Kd.R_alloc | apply Kd.R_drewN | apply Kd.R_drew)); exact HO216.out⟩, ⟨by (with_reducible repeat (first | refine blk_drewN ?_ _ | refine blk_drew ?_ | refine blk_alloc ?_ _)); exact BK200.out⟩, ⟨by repeat (first | (with_reducible first | exact HB.out | apply below_alloc | apply pw_below_drewN | apply below_drew1 | refine below_set ?_ GE200.out) | exact HB.out)⟩⟩
         ·rw [if_neg c22] at H
          have c22b0 : ((y214.length : Int) == 5) = false := beq_eq_false_iff_ne.mpr c22
          have c22b1 : ((y214.length : Int) != 5) = true := bne_iff_ne.mpr c22
          (first | rw [c22b0] | (simp only [i64_w, i32_w]; rw [c22b0]) | skip)
          try rw [c22b1]
          have H' := Aside0.mk H
          clear H
          go_wp2
          go_roundg k1
          case measure => have := HK1.out; omega
          case rel => exact ⟨(y214), (wrap64 (x6_1 + t213)), (x7_1), (x201000_1), (x201001_1), (x201002_1), (x201003_1), (x201007_1), (by first | rfl | (simp; done) | (simp [*]; done)), (by first | rfl | (simp; done) | (simp [*]; done)), H', ⟨by have := HK1.out; omega⟩, ⟨by (with_reducible repeat (first | apply Kd.V_alloc | apply Kd.V_drewN | apply Kd.V_drew)); exact Kd.V_mono HO_4.out (fun _ hk => And.intro hk.2 hk.1)⟩, ⟨by (with_reducible repeat (first | apply Kd.R_alloc | apply Kd.R_drewN | apply Kd.R_drew)); exact HO216.out⟩, ⟨by (with_reducible repeat (first | refine blk_drewN ?_ _ | refine blk_drew ?_ | refine blk_alloc ?_ _)); exact BK200.out⟩, ⟨by repeat (first | (with_reducible first | exact HB.out | apply below_alloc | apply pw_below_drewN | apply below_drew1 | refine below_set ?_ GE200.out) | exact HB.out)⟩⟩
        ·rw [if_neg c18] at H
         exact absurd H (by simp)
      ·rw [if_neg c10] at H
       exact absurd H (by simp)
     ·rw [if_neg c9] at H
      exact absurd H (by simp)
    ·rw [if_neg c8] at H
     have c8b0 : decide ((x5_1.length : Int) < x7_1) = false := decide_eq_false c8
     clear c8
     by_cases c25 : 0 ≤ x6_1
     ·rw [if_pos c25] at H
      have c25b0 := eq_true c25
      have c25b1 : decide (0 ≤ x6_1) = true := decide_eq_true c25
      clear c25
      by_cases c26 : x6_1 ≤ (y201.length : Int)
      ·rw [if_pos c26] at H
       have c26b0 := eq_true c26
       have c26b1 : decide (x6_1 ≤ (y201.length : Int)) = true := decide_eq_true c26
       clear c26
       obtain ⟨y217, hy217⟩ : ∃ y_ : List Int, y_ = (y201.drop (x6_1 : Int).toNat) := ⟨_, rfl⟩
       replace H : ((spec_l1ReadTexts.f k1 y217).bind fun bt222 => (if bt222.2 = 0 then (some (0, 0, 0, 0, ([] : List Int), ([] : List Int), ([] : List ByteArray), 0, false)) else (if 0 ≤ (wrap64 (x6_1 + bt222.2)) then (if (wrap64 (x6_1 + bt222.2)) ≤ (y201.length : Int) then ((spec_ReadNumber.f k1 (y201.drop ((wrap64 (x6_1 + bt222.2)) : Int).toNat)).bind fun bt231 => (if 0 < (x5_1.length : Int) then (if 1 < (x5_1.length : Int) then (if 2 < (x5_1.length : Int) then (if 3 < (x5_1.length : Int) then (spec_ReadBlock.l1 k1 a0 x5_1 5 (rd x5_1 0) (rd x5_1 1) (rd x5_1 2) (rd x5_1 3) ([] : List Int) ([] : List Int) bt222.1 bt231.1) else (none)) else (none)) else (none)) else (none))) else (none)) else (none)))) = some (r1, r2, r3, r4, r5, r6, r7, r8, r9) := by first | (rw [hy217]; with_reducible exact H) | (have H2_ := (Option.bind_some _ _).symm.trans H; rw [hy217]; with_reducible exact H2_) | (have H2_ := (Option.bind_some _ _).symm.trans H; with_reducible exact H2_) | with_reducible exact H | (rw [hy217]; exact H) | exact H
       have Ny217 := Aside0.mk hy217
       clear hy217
       replace H := Option.bind_eq_some_iff.mp H
       obtain ⟨⟨t222, t223⟩, A270, H⟩ := H
       replace H : (if t223 = 0 then (some (0, 0, 0, 0, ([] : List Int), ([] : List Int), ([] : List ByteArray), 0, false)) else (if 0 ≤ (wrap64 (x6_1 + t223)) then (if (wrap64 (x6_1 + t223)) ≤ (y201.length : Int) then ((spec_ReadNumber.f k1 (y201.drop ((wrap64 (x6_1 + t223)) : Int).toNat)).bind fun bt231 => (if 0 < (x5_1.length : Int) then (if 1 < (x5_1.length : Int) then (if 2 < (x5_1.length : Int) then (if 3 < (x5_1.length : Int) then (spec_ReadBlock.l1 k1 a0 x5_1 5 (rd x5_1 0) (rd x5_1 1) (rd x5_1 2) (rd x5_1 3) ([] : List Int) ([] : List Int) t222 bt231.1) else (none)) else (none)) else (none)) else (none))) else (none)) else (none))) = some (r1, r2, r3, r4, r5, r6, r7, r8, r9) := H
       have A27 := Aside0.mk A270
       clear A270
       have HC28 := Aside0.mk H
       clear H
       obtain ⟨Ao29, co29, eo29⟩ := Kd.R_slice HO_5.out
       subst eo29
       obtain ⟨Ao31, co31, eo31⟩ := Kd.V_slice HO_4.out
       subst eo31
       have q30 : (x6_1 : Int) ≤ ((y201.length : Int) : Int) := of_decide_eq_true (by first | (with_reducible assumption) | assumption)
       obtain ⟨i030, hi030, _, hsz30, _⟩ := info_parts info5
       have hroom30 : y201.length ≤ co31 := (Kd.V_reads' HO_4.out).2.1
       have hC30 : Kd.F (Kd.int .u8) _ _ Ao31 y201.length y201 := (Kd.V_at (base := w.heap.size) HO_4.out).2.2
       have q030 : (0 : Int) ≤ (x6_1 : Int) := of_decide_eq_true (by first | (with_reducible assumption) | assumption)
       have hcut30 := cut_from (P := Try.prog) 83 5 .i64 Try.underlying83 hi030 1 hsz30 Ao31 y201.length co31 x6_1 q030 q30
       have hr30 := Kd.F_cut (m := (x6_1 : Int).toNat) (c := co31) hC30 (by omega) hroom30
       obtain ⟨A30, hA30⟩ : ∃ A1, A1 = (if co31 = (x6_1 : Int).toNat then Ao31 else (Ao31 : Option Addr).map (·.add ((x6_1 : Int).toNat * 1))) := ⟨_, rfl⟩
       obtain ⟨c30, hc30⟩ : ∃ c1, c1 = co31 - (x6_1 : Int).toNat := ⟨_, rfl⟩
       have hy30 : y217.length = y201.length - (x6_1 : Int).toNat := (by rw [Ny217.out, List.length_drop] <;> omega)
       rw [show (y201).drop (x6_1 : Int).toNat = y217 from Ny217.out.symm] at hr30
       replace hr30 : Kd.F (Kd.int .u8) _ _ A30 y217.length y217 := (by rw [hA30]; exact hr30)
       rw [← hy30, ← hA30, ← hc30] at hcut30
       have HO221 := Aside0.mk (show Kd.V (Kd.int .u8) 5 _ w.heap.size _ (.slice A30 y217.length c30) y217 from Kd.V_mk (by rw [hy30, hc30]; exact Nat.sub_le_sub_right hroom30 _) hr30)
       have HC221 := Aside0.mk (show y217.length ≤ c30 from by rw [hy30, hc30]; exact Nat.sub_le_sub_right hroom30 _)
       clear hr30 hC30 hroom30 hi030 hsz30 hc30
       have KY30 := Aside0.mk hy30
       have KA30 := Aside0.mk hA30
       clear hy30 hA30
       replace q30 := eq_true q30
       go_upto_if 57 with (first | ((with_reducible refine gate_callee (f := 102) rfl ?_); refine goesL_ (some 53) rfl rfl Try.func102 (by kernel_rfl) rfl #[.slice A30 y217.length c30] rfl (by (try simp only [List.map_toArray, List.map_cons, List.map_nil]); first | done | rfl | (simp only [List.length_drop, List.length_take]; rfl)) ?_; (with_reducible refine (spec_l1ReadTexts.calls k1 _ _ y217 t222 t223 _ ?side1 ?side2 A27.out).mono ?_); (case side1 => repeat (first | exact (Kd.V_reads' HO221.out).2.2 | (with_reducible refine Kd.C_alloc ?_ _) | (with_reducible refine Kd.C_drewN ?_ _) | (with_reducible refine Kd.C_drew ?_))); (case side2 => exact (Kd.V_reads' HO221.out).2.1); rintro e w32 ⟨v224, rfl, ho0, hb⟩; refine ⟨_, rfl, ?_⟩; have n0_ := Aside0.mk (Kd.V_elder' (by (with_reducible repeat (first | apply Kd.V_alloc | apply Kd.V_drewN | apply Kd.V_drew)); exact HO_4.out) (Kd.R_base ho0) hb); have n1_ := Aside0.mk (Kd.R_below (by (with_reducible repeat (first | apply Kd.R_alloc | apply Kd.R_drewN | apply Kd.R_drew)); exact HO_5.out) hb); have n2_ := Aside0.mk (Kd.V_elder' (by (with_reducible repeat (first | apply Kd.V_alloc | apply Kd.V_drewN | apply Kd.V_drew)); exact HO221.out) (Kd.R_base ho0) hb); have n3_ := Aside0.mk (Kd.R_lower ho0 (below_size (by repeat (first | (with_reducible first | exact HB.out | apply below_alloc | apply pw_below_drewN | apply below_drew1 | refine below_set ?_ GE200.out) | exact HB.out)))); have n4_ := Aside0.mk (blk_below (g := gb200) (o := .cells #[.int .i64 x201000_1, .int .i64 x201001_1, .int .i64 x201002_1, .int .i64 x201003_1, .slice none 0 0, .slice none 0 0, .slice none 0 0, .int .i64 x201007_1] 42 (0, 0)) (by (with_reducible repeat (first | refine blk_drewN ?_ _ | refine blk_drew ?_ | refine blk_alloc ?_ _)); exact BK200.out) hb); have n5_ := Aside0.mk (below_step (by repeat (first | (with_reducible first | exact HB.out | apply below_alloc | apply pw_below_drewN | apply below_drew1 | refine below_set ?_ GE200.out) | exact HB.out)) hb); clear HO_4; clear HO_5; clear HO221; clear BK200; clear HB; have HO_4 := n0_; have HO_5 := n1_; have HO221 := n2_; have HO225 := n3_; have BK200 := n4_; have HB := n5_; clear n0_ n1_ n2_ n3_ n4_ n5_; (try clear hb); (try clear hb2); (try clear hk); (try clear hi); (try clear ho0)))
       (try simp only [Act.put, List.setIfInBounds_toArray, List.set_cons_zero, List.set_cons_succ])
       have H := HC28.out
       clear HC28
       by_cases c33 : t223 = 0
       ·rw [if_pos c33] at H
        have c33b0 : (t223 == 0) = true := beq_iff_eq.mpr c33
        have c33b1 : (t223 != 0) = false := bne_eq_false_iff_eq.mpr c33
        clear c33
        (first | rw [c33b0] | (simp only [i64_w, i32_w]; rw [c33b0]) | skip)
        try rw [c33b1]
        simp only [Option.some.injEq, Prod.mk.injEq] at H
        obtain ⟨rfl, rfl, rfl, rfl, rfl, rfl, rfl, rfl, rfl⟩ := H
        have hcz34_0 : w32.cell? ⟨gb200, 0, none⟩ = some (.int .i64 x201000_1) := (blk_cell BK200.out 0).trans rfl
        have hcz34_1 : w32.cell? ⟨gb200, 1, none⟩ = some (.int .i64 x201001_1) := (blk_cell BK200.out 1).trans rfl
        have hcz34_2 : w32.cell? ⟨gb200, 2, none⟩ = some (.int .i64 x201002_1) := (blk_cell BK200.out 2).trans rfl
        have hcz34_3 : w32.cell? ⟨gb200, 3, none⟩ = some (.int .i64 x201003_1) := (blk_cell BK200.out 3).trans rfl
        have hcz34_4 : w32.cell? ⟨gb200, 4, none⟩ = some (.slice none 0 0) := (blk_cell BK200.out 4).trans rfl
        have hcz34_5 : w32.cell? ⟨gb200, 5, none⟩ = some (.slice none 0 0) := (blk_cell BK200.out 5).trans rfl
        have hcz34_6 : w32.cell? ⟨gb200, 6, none⟩ = some (.slice none 0 0) := (blk_cell BK200.out 6).trans rfl
        have hcz34_7 : w32.cell? ⟨gb200, 7, none⟩ = some (.int .i64 x201007_1) := (blk_cell BK200.out 7).trans rfl
        have hfz34_0 := blk_frozen BK200.out 0
        have hfz34_1 := blk_frozen BK200.out 1
        have hfz34_2 := blk_frozen BK200.out 2
        have hfz34_3 := blk_frozen BK200.out 3
        have hfz34_4 := blk_frozen BK200.out 4
        have hfz34_5 := blk_frozen BK200.out 5
        have hfz34_6 := blk_frozen BK200.out 6
        have hfz34_7 := blk_frozen BK200.out 7
        go_wp2
        refine bodyPost_ret (results_ct rfl _ _ gb200 42 #[.int .i64 0, .int .i64 0, .int .i64 0, .int .i64 0, .slice none 0 0, .slice none 0 0, .slice none 0 0, .int .i64 0] (0, 0) _ rfl (by (with_reducible repeat (first | refine blk_drewN ?_ _ | refine blk_drew ?_ | refine blk_alloc ?_ _)); refine blk_put (cs := #[.int .i64 0, .int .i64 0, .int .i64 0, .int .i64 0, .slice none 0 0, .slice none 0 0, .slice none 0 0, .int .i64 x201007_1]) ?_ 7 _ rfl; (with_reducible repeat (first | refine blk_drewN ?_ _ | refine blk_drew ?_ | refine blk_alloc ?_ _)); refine blk_put (cs := #[.int .i64 0, .int .i64 0, .int .i64 0, .int .i64 0, .slice none 0 0, .slice none 0 0, .slice none 0 0, .int .i64 x201007_1]) ?_ 6 _ rfl; (with_reducible repeat (first | refine blk_drewN ?_ _ | refine blk_drew ?_ | refine blk_alloc ?_ _)); refine blk_put (cs := #[.int .i64 0, .int .i64 0, .int .i64 0, .int .i64 0, .slice none 0 0, .slice none 0 0, .slice none 0 0, .int .i64 x201007_1]) ?_ 5 _ rfl; (with_reducible repeat (first | refine blk_drewN ?_ _ | refine blk_drew ?_ | refine blk_alloc ?_ _)); refine blk_put (cs := #[.int .i64 0, .int .i64 0, .int .i64 0, .int .i64 0, .slice none 0 0, .slice none 0 0, .slice none 0 0, .int .i64 x201007_1]) ?_ 4 _ rfl; (with_reducible repeat (first | refine blk_drewN ?_ _ | refine blk_drew ?_ | refine blk_alloc ?_ _)); refine blk_put (cs := #[.int .i64 0, .int .i64 0, .int .i64 0, .int .i64 x201003_1, .slice none 0 0, .slice none 0 0, .slice none 0 0, .int .i64 x201007_1]) ?_ 3 _ rfl; (with_reducible repeat (first | refine blk_drewN ?_ _ | refine blk_drew ?_ | refine blk_alloc ?_ _)); refine blk_put (cs := #[.int .i64 0, .int .i64 0, .int .i64 x201002_1, .int .i64 x201003_1, .slice none 0 0, .slice none 0 0, .slice none 0 0, .int .i64 x201007_1]) ?_ 2 _ rfl; (with_reducible repeat (first | refine blk_drewN ?_ _ | refine blk_drew ?_ | refine blk_alloc ?_ _)); refine blk_put (cs := #[.int .i64 0, .int .i64 x201001_1, .int .i64 x201002_1, .int .i64 x201003_1, .slice none 0 0, .slice none 0 0, .slice none 0 0, .int .i64 x201007_1]) ?_ 1 _ rfl; (with_reducible repeat (first | refine blk_drewN ?_ _ | refine blk_drew ?_ | refine blk_alloc ?_ _)); refine blk_put (cs := #[.int .i64 x201000_1, .int .i64 x201001_1, .int .i64 x201002_1, .int .i64 x201003_1, .slice none 0 0, .slice none 0 0, .slice none 0 0, .int .i64 x201007_1]) ?_ 0 _ rfl; (with_reducible repeat (first | refine blk_drewN ?_ _ | refine blk_drew ?_ | refine blk_alloc ?_ _)); exact BK200.out) Try.underlying42 rfl (by kernel_rfl)) rfl ?_
        exact ⟨_, _, _, by first | rfl | (simp [errW_none, errW_some] <;> rfl) | (simp [*, errW_none, errW_some] <;> rfl), by first | exact Kd.R_nil _ _ _ _ _ | exact Kd.N_nil _ _ _ _ _ | exact Kd.V_nil _ _ _ _ _ | exact Kd.Q_nil _ _ _ _ _ | exact Kd.S_nil _ _ _ _ _, by first | exact Kd.R_nil _ _ _ _ _ | exact Kd.N_nil _ _ _ _ _ | exact Kd.V_nil _ _ _ _ _ | exact Kd.Q_nil _ _ _ _ _ | exact Kd.S_nil _ _ _ _ _, by first | exact Kd.R_nil _ _ _ _ _ | exact Kd.N_nil _ _ _ _ _ | exact Kd.V_nil _ _ _ _ _ | exact Kd.Q_nil _ _ _ _ _ | exact Kd.S_nil _ _ _ _ _, by repeat (first | (with_reducible first | exact HB.out | apply below_alloc | apply pw_below_drewN | apply below_drew1 | refine below_set ?_ GE200.out) | exact HB.out)⟩
       ·rw [if_neg c33] at H
        have c33b0 : (t223 == 0) = false := beq_eq_false_iff_ne.mpr c33
        have c33b1 : (t223 != 0) = true := bne_iff_ne.mpr c33
        (first | rw [c33b0] | (simp only [i64_w, i32_w]; rw [c33b0]) | skip)
        try rw [c33b1]
        obtain ⟨ji35, hji35⟩ : ∃ j_ : Int, (wrap64 (x6_1 + t223)) = j_ := ⟨_, rfl⟩
        replace H : (if 0 ≤ (ji35) then (if (ji35) ≤ (y201.length : Int) then ((spec_ReadNumber.f k1 (y201.drop ((ji35) : Int).toNat)).bind fun bt231 => (if 0 < (x5_1.length : Int) then (if 1 < (x5_1.length : Int) then (if 2 < (x5_1.length : Int) then (if 3 < (x5_1.length : Int) then (spec_ReadBlock.l1 k1 a0 x5_1 5 (rd x5_1 0) (rd x5_1 1) (rd x5_1 2) (rd x5_1 3) ([] : List Int) ([] : List Int) t222 bt231.1) else (none)) else (none)) else (none)) else (none))) else (none)) else (none)) = some (r1, r2, r3, r4, r5, r6, r7, r8, r9) := by first | (rw [hji35] at H; exact H) | (simp only [hji35] at H ⊢; exact H)
        have hji35w : (IntKind.i64.wrap (x6_1 + t223)) = ji35 := (i64_w _).trans hji35
        by_cases c36 : 0 ≤ (ji35)
        ·rw [if_pos c36] at H
         have c36b0 := eq_true c36
         have c36b1 : decide (0 ≤ (ji35)) = true := decide_eq_true c36
         clear c36
         by_cases c37 : (ji35) ≤ (y201.length : Int)
         ·rw [if_pos c37] at H
          have c37b0 := eq_true c37
          have c37b1 : decide ((ji35) ≤ (y201.length : Int)) = true := decide_eq_true c37
          clear c37
          obtain ⟨y226, hy226⟩ : ∃ y_ : List Int, y_ = (y201.drop ((ji35) : Int).toNat) := ⟨_, rfl⟩
          replace H : ((spec_ReadNumber.f k1 y226).bind fun bt231 => (if 0 < (x5_1.length : Int) then (if 1 < (x5_1.length : Int) then (if 2 < (x5_1.length : Int) then (if 3 < (x5_1.length : Int) then (spec_ReadBlock.l1 k1 a0 x5_1 5 (rd x5_1 0) (rd x5_1 1) (rd x5_1 2) (rd x5_1 3) ([] : List Int) ([] : List Int) t222 bt231.1) else (none)) else (none)) else (none)) else (none))) = some (r1, r2, r3, r4, r5, r6, r7, r8, r9) := by first | (rw [hy226]; with_reducible exact H) | (have H2_ := (Option.bind_some _ _).symm.trans H; rw [hy226]; with_reducible exact H2_) | (have H2_ := (Option.bind_some _ _).symm.trans H; with_reducible exact H2_) | with_reducible exact H | (rw [hy226]; exact H) | exact H
          have Ny226 := Aside0.mk hy226
          clear hy226
          replace H := Option.bind_eq_some_iff.mp H
          obtain ⟨⟨t231, t232⟩, A380, H⟩ := H
          replace H : (if 0 < (x5_1.length : Int) then (if 1 < (x5_1.length : Int) then (if 2 < (x5_1.length : Int) then (if 3 < (x5_1.length : Int) then (spec_ReadBlock.l1 k1 a0 x5_1 5 (rd x5_1 0) (rd x5_1 1) (rd x5_1 2) (rd x5_1 3) ([] : List Int) ([] : List Int) t222 t231) else (none)) else (none)) else (none)) else (none)) = some (r1, r2, r3, r4, r5, r6, r7, r8, r9) := H
          have A38 := Aside0.mk A380
          clear A380
          by_cases c39 : 0 < (x5_1.length : Int)
          ·rw [if_pos c39] at H
           have c39b0 : decide (0 < (x5_1.length : Int)) = true := decide_eq_true c39
           have c39b1 : decide (0 < x5_1.length) = true := decide_eq_true (by omega)
           clear c39
           by_cases c40 : 1 < (x5_1.length : Int)
           ·rw [if_pos c40] at H
            have c40b0 : decide (1 < (x5_1.length : Int)) = true := decide_eq_true c40
            have c40b1 : decide (1 < x5_1.length) = true := decide_eq_true (by omega)
            clear c40
            by_cases c41 : 2 < (x5_1.length : Int)
            ·rw [if_pos c41] at H
             have c41b0 : decide (2 < (x5_1.length : Int)) = true := decide_eq_true c41
             have c41b1 : decide (2 < x5_1.length) = true := decide_eq_true (by omega)
             clear c41
             by_cases c42 : 3 < (x5_1.length : Int)
             ·rw [if_pos c42] at H
              have c42b0 : decide (3 < (x5_1.length : Int)) = true := decide_eq_true c42
              have c42b1 : decide (3 < x5_1.length) = true := decide_eq_true (by omega)
              clear c42
              have H' := Aside0.mk H
              clear H
              have q43 : ((ji35) : Int) ≤ ((y201.length : Int) : Int) := of_decide_eq_true (by first | (with_reducible assumption) | assumption)
              obtain ⟨i043, hi043, _, hsz43, _⟩ := info_parts info5
              have hroom43 : y201.length ≤ co31 := (Kd.V_reads' HO_4.out).2.1
              have hC43 : Kd.F (Kd.int .u8) _ _ Ao31 y201.length y201 := (Kd.V_at (base := w.heap.size) HO_4.out).2.2
              have q043 : (0 : Int) ≤ ((ji35) : Int) := of_decide_eq_true (by first | (with_reducible assumption) | assumption)
              have hcut43 := cut_from (P := Try.prog) 83 5 .i64 Try.underlying83 hi043 1 hsz43 Ao31 y201.length co31 (ji35) q043 q43
              have hr43 := Kd.F_cut (m := ((ji35) : Int).toNat) (c := co31) hC43 (by omega) hroom43
              obtain ⟨A43, hA43⟩ : ∃ A1, A1 = (if co31 = ((ji35) : Int).toNat then Ao31 else (Ao31 : Option Addr).map (·.add (((ji35) : Int).toNat * 1))) := ⟨_, rfl⟩
              obtain ⟨c43, hc43⟩ : ∃ c1, c1 = co31 - ((ji35) : Int).toNat := ⟨_, rfl⟩
              have hy43 : y226.length = y201.length - ((ji35) : Int).toNat := (by rw [Ny226.out, List.length_drop] <;> omega)
              rw [show (y201).drop ((ji35) : Int).toNat = y226 from Ny226.out.symm] at hr43
              replace hr43 : Kd.F (Kd.int .u8) _ _ A43 y226.length y226 := (by rw [hA43]; exact hr43)
              rw [← hy43, ← hA43, ← hc43] at hcut43
              have HO230 := Aside0.mk (show Kd.V (Kd.int .u8) 5 _ w.heap.size _ (.slice A43 y226.length c43) y226 from Kd.V_mk (by rw [hy43, hc43]; exact Nat.sub_le_sub_right hroom43 _) hr43)
              have HC230 := Aside0.mk (show y226.length ≤ c43 from by rw [hy43, hc43]; exact Nat.sub_le_sub_right hroom43 _)
              clear hr43 hC43 hroom43 hi043 hsz43 hc43
              have KY43 := Aside0.mk hy43
              have KA43 := Aside0.mk hA43
              clear hy43 hA43
              replace q43 := eq_true q43
              try go_wp2_with (first | ((with_reducible refine gate_callee (f := 101) rfl ?_); refine goesL_ (some 66) rfl rfl Try.func101 (by kernel_rfl) rfl #[.slice A43 y226.length c43] rfl (by (try simp only [List.map_toArray, List.map_cons, List.map_nil]); first | done | rfl | (simp only [List.length_drop, List.length_take]; rfl)) ?_; (with_reducible refine (spec_ReadNumber.calls k1 _ _ y226 t231 t232 _ ?side1 ?side2 A38.out).mono ?_); (case side1 => repeat (first | exact (Kd.V_reads' HO230.out).2.2 | (with_reducible refine Kd.C_alloc ?_ _) | (with_reducible refine Kd.C_drewN ?_ _) | (with_reducible refine Kd.C_drew ?_))); (case side2 => exact (Kd.V_reads' HO230.out).2.1); rintro e w' ⟨rfl, ⟨nd, rfl⟩⟩; refine ⟨_, rfl, ?_⟩; (try (rw [drewN_self w32]; generalize hq_ : World.drewN w32 _ = w32; have n0_ : Aside0 (Kd.V (Kd.int .u8) 5 w32 w.heap.size (fun k_ => some k_ ≠ (v224 : Value).ownBlock ∧ some k_ ≠ (.slice Ao29 x5_1.length co29 : Value).ownBlock ∧ k_ ≠ gb200) (.slice A30 y217.length c30) y217) := ⟨by rw [← hq_]; exact (by (with_reducible repeat (first | apply Kd.V_alloc | apply Kd.V_drewN | apply Kd.V_drew)); exact Kd.V_mono HO221.out (fun _ hk => ⟨hk.2, ⟨hk.1.1, hk.1.2⟩⟩))⟩; have n1_ : Aside0 (Kd.R Kd.string 9 w32 w.heap.size (fun _ => True) v224 t222) := ⟨by rw [← hq_]; exact (by (with_reducible repeat (first | apply Kd.R_alloc | apply Kd.R_drewN | apply Kd.R_drew)); exact HO225.out)⟩; have n2_ : Aside0 (Kd.V (Kd.int .u8) 5 w32 w.heap.size (fun k_ => some k_ ≠ (v224 : Value).ownBlock ∧ some k_ ≠ (.slice Ao29 x5_1.length co29 : Value).ownBlock ∧ k_ ≠ gb200) (.slice A43 y226.length c43) y226) := ⟨by rw [← hq_]; exact (by (with_reducible repeat (first | apply Kd.V_alloc | apply Kd.V_drewN | apply Kd.V_drew)); exact Kd.V_mono HO230.out (fun _ hk => ⟨hk.2, ⟨hk.1.1, hk.1.2⟩⟩))⟩; have n3_ : Aside0 (Kd.V (Kd.int .u8) 5 w32 w.heap.size (fun k_ => some k_ ≠ (v224 : Value).ownBlock ∧ some k_ ≠ (.slice Ao29 x5_1.length co29 : Value).ownBlock ∧ k_ ≠ gb200) (.slice Ao31 y201.length co31) y201) := ⟨by rw [← hq_]; exact (by (with_reducible repeat (first | apply Kd.V_alloc | apply Kd.V_drewN | apply Kd.V_drew)); exact Kd.V_mono HO_4.out (fun _ hk => ⟨hk.2, ⟨hk.1.1, hk.1.2⟩⟩))⟩; have n4_ : Aside0 (Kd.R (Kd.int .i64) 2 w32 w.heap.size (fun _ => True) (.slice Ao29 x5_1.length co29) x5_1) := ⟨by rw [← hq_]; exact (by (with_reducible repeat (first | apply Kd.R_alloc | apply Kd.R_drewN | apply Kd.R_drew)); exact HO_5.out)⟩; have n5_ : Aside0 (w32.heap[gb200]? = some (.cells #[.int .i64 x201000_1, .int .i64 x201001_1, .int .i64 x201002_1, .int .i64 x201003_1, .slice none 0 0, .slice none 0 0, .slice none 0 0, .int .i64 x201007_1] 42 (0, 0))) := ⟨by rw [← hq_]; exact (by (with_reducible repeat (first | refine blk_drewN ?_ _ | refine blk_drew ?_ | refine blk_alloc ?_ _)); exact BK200.out)⟩; have n6_ : Aside0 (Below w.heap.size w w32) := ⟨by rw [← hq_]; exact (by repeat (first | (with_reducible first | exact HB.out | apply below_alloc | apply pw_below_drewN | apply below_drew1 | refine below_set ?_ GE200.out) | exact HB.out))⟩; clear HO221 HO225 HO230 HO_4 HO_5 BK200 HB hq_; have HO221 := n0_; have HO225 := n1_; have HO230 := n2_; have HO_4 := n3_; have HO_5 := n4_; have BK200 := n5_; have HB := n6_; clear n0_ n1_ n2_ n3_ n4_ n5_ n6_))))
              have n0_ := Aside0.mk (Kd.V_drew HO_4.out)
              have n1_ := Aside0.mk (Kd.R_drew HO_5.out)
              have n2_ := Aside0.mk (Kd.V_drew HO221.out)
              have n3_ := Aside0.mk (Kd.R_drew HO225.out)
              have n4_ := Aside0.mk (Kd.V_drew HO230.out)
              have n5_ := Aside0.mk (blk_drew BK200.out)
              have n6_ := Aside0.mk (below_drew1 HB.out)
              clear HO_4
              clear HO_5
              clear HO221
              clear HO225
              clear HO230
              clear BK200
              clear HB
              have HO_4 := n0_
              have HO_5 := n1_
              have HO221 := n2_
              have HO225 := n3_
              have HO230 := n4_
              have BK200 := n5_
              have HB := n6_
              clear n0_ n1_ n2_ n3_ n4_ n5_ n6_
              have p233 : 0 ≤ (0 : Int) := (by omega)
              have q233 : 0 < (x5_1.length : Int) := of_decide_eq_true (by first | (with_reducible assumption) | assumption)
              obtain ⟨ad233, e233, hx233_0⟩ := Kd.at_int (Kd.R_reads' HO_5.out).2.2 0 p233 q233
              cases e233
              have qi233 : (0 < x5_1.length) = True := eq_true (by omega)
              (try rw [show ((0 : Int)).toNat = 0 from rfl] at hx233_0)
              (try rw [Addr.add_zero'] at hx233_0)
              replace p233 := eq_true p233
              replace q233 := eq_true q233
              have p234 : 0 ≤ (1 : Int) := (by omega)
              have q234 : 1 < (x5_1.length : Int) := of_decide_eq_true (by first | (with_reducible assumption) | assumption)
              obtain ⟨ad234, e234, hx234_0⟩ := Kd.at_int (Kd.R_reads' HO_5.out).2.2 1 p234 q234
              obtain rfl : ad233 = ad234 := (by injection e234)
              (try simp only [show (1 : Int).toNat = 1 from rfl, Nat.reduceMul, Nat.reduceEqDiff, Go.Addr.add, ↓reduceIte] at hx234_0)
              have qi234 : (1 < x5_1.length) = True := eq_true (by omega)
              (try rw [show ((1 : Int)).toNat = 1 from rfl] at hx234_0)
              replace p234 := eq_true p234
              replace q234 := eq_true q234
              have p235 : 0 ≤ (2 : Int) := (by omega)
              have q235 : 2 < (x5_1.length : Int) := of_decide_eq_true (by first | (with_reducible assumption) | assumption)
              obtain ⟨ad235, e235, hx235_0⟩ := Kd.at_int (Kd.R_reads' HO_5.out).2.2 2 p235 q235
              obtain rfl : ad233 = ad235 := (by injection e235)
              (try simp only [show (2 : Int).toNat = 2 from rfl, Nat.reduceMul, Nat.reduceEqDiff, Go.Addr.add, ↓reduceIte] at hx235_0)
              have qi235 : (2 < x5_1.length) = True := eq_true (by omega)
              (try rw [show ((2 : Int)).toNat = 2 from rfl] at hx235_0)
              replace p235 := eq_true p235
              replace q235 := eq_true q235
              have p236 : 0 ≤ (3 : Int) := (by omega)
              have q236 : 3 < (x5_1.length : Int) := of_decide_eq_true (by first | (with_reducible assumption) | assumption)
              obtain ⟨ad236, e236, hx236_0⟩ := Kd.at_int (Kd.R_reads' HO_5.out).2.2 3 p236 q236
              obtain rfl : ad233 = ad236 := (by injection e236)
              (try simp only [show (3 : Int).toNat = 3 from rfl, Nat.reduceMul, Nat.reduceEqDiff, Go.Addr.add, ↓reduceIte] at hx236_0)
              have qi236 : (3 < x5_1.length) = True := eq_true (by omega)
              (try rw [show ((3 : Int)).toNat = 3 from rfl] at hx236_0)
              replace p236 := eq_true p236
              replace q236 := eq_true q236
              obtain ⟨Ao45, co45, eo45⟩ := Kd.R_slice HO225.out
              (first | subst eo45 | (injection eo45 with f1_ f2_ f3_; have f4_ := f1_.symm; have f5_ := f3_.symm; clear f1_ f2_ f3_; subst f4_; subst f5_))
              refine start_ (n := 18) (S := fun w' => w'.cell? ad233 = some (.int .i64 (rd x5_1 0)) ∧ w'.cell? ⟨ad233.block, ad233.off + 1, none⟩ = some (.int .i64 (rd x5_1 1)) ∧ w'.cell? ⟨ad233.block, ad233.off + 2, none⟩ = some (.int .i64 (rd x5_1 2)) ∧ w'.cell? ⟨ad233.block, ad233.off + 3, none⟩ = some (.int .i64 (rd x5_1 3))) (ds := []) (bA 18 0) (by kernel_rfl) rfl rfl ⟨hx233_0, hx234_0, hx235_0, hx236_0⟩ (fun hHeld => ?_); refine with_tabW spec_ReadBlock.tab20 spec_ReadBlock.bits20 (fun HT_ HW_ => ?_)
              generalize w32.drew = w44 at HO_4 HO_5 HO221 HO225 HO230 BK200 HB hx233_0 hx234_0 hx235_0 hx236_0 hHeld ⊢
              refine pv (i := 0) (N := some 69) (bA 18 1) rfl rfl (any_of HT_.out (by kernel_rfl)) ?_
              refine pv (i := 1) (N := some 70) (bA 18 3) rfl rfl (any_of HT_.out (by kernel_rfl)) ?_
              refine pv (i := 3) (N := some 72) (bA 18 11) rfl rfl (any_of HT_.out (by kernel_rfl)) ?_
              refine pv (i := 4) (N := some 73) (bA 18 27) rfl rfl (any_of HT_.out (by kernel_rfl)) ?_
              refine pv (i := 6) (N := some 75) (bA 18 91) rfl rfl (any_of HT_.out (by kernel_rfl)) ?_
              refine pv (i := 7) (N := some 76) (bA 18 219) rfl rfl (any_of HT_.out (by kernel_rfl)) ?_
              refine pv (i := 9) (N := some 78) (bA 18 731) rfl rfl (any_of HT_.out (by kernel_rfl)) ?_
              refine pv (i := 10) (N := some 79) (bA 18 1755) rfl rfl (any_of HT_.out (by kernel_rfl)) ?_
              refine pv (i := 13) (N := some 82) (bA 18 9947) rfl rfl (any_of HT_.out (by kernel_rfl)) ?_
              refine pv (i := 14) (N := some 83) (bA 18 26331) rfl rfl (any_of HT_.out (by kernel_rfl)) ?_
              refine take_ (i := 2) (N := some 71) (v := ?_) (a' := ?_) (bA 18 26335) rfl rfl (take_ofW HT_.out HW_.out (by kernel_rfl)) (fun _ _ _ h => h) (Or.inl ⟨by rfl, ?_⟩) hHeld ?_ ?_
              rotate_left
              ·rintro w' ⟨s0, s1, s2, s3⟩
               go_simp
               with_reducible rfl
              rotate_left
              ·simp only [sp_]
               rfl
              refine take_ (i := 5) (N := some 74) (v := ?_) (a' := ?_) (bA 18 26367) rfl rfl (take_ofW HT_.out HW_.out (by kernel_rfl)) (fun _ _ _ h => h) (Or.inl ⟨by rfl, ?_⟩) hHeld ?_ ?_
              rotate_left
              ·rintro w' ⟨s0, s1, s2, s3⟩
               go_simp
               with_reducible rfl
              rotate_left
              ·simp only [sp_]
               rfl
              refine take_ (i := 8) (N := some 77) (v := ?_) (a' := ?_) (bA 18 26623) rfl rfl (take_ofW HT_.out HW_.out (by kernel_rfl)) (fun _ _ _ h => h) (Or.inl ⟨by rfl, ?_⟩) hHeld ?_ ?_
              rotate_left
              ·rintro w' ⟨s0, s1, s2, s3⟩
               go_simp
               with_reducible rfl
              rotate_left
              ·simp only [sp_]
               rfl
              refine take_ (i := 11) (N := some 80) (v := ?_) (a' := ?_) (bA 18 28671) rfl rfl (take_ofW HT_.out HW_.out (by kernel_rfl)) (fun _ _ _ h => h) (Or.inl ⟨by rfl, ?_⟩) hHeld ?_ ?_
              rotate_left
              ·rintro w' ⟨s0, s1, s2, s3⟩
               go_simp
               with_reducible rfl
              rotate_left
              ·simp only [sp_]
               rfl
              refine pv (i := 12) (N := some 81) (bA 18 32767) rfl rfl (any_of HT_.out (by kernel_rfl)) ?_
              refine pv (i := 15) (N := some 84) (bA 18 65535) rfl rfl (any_of HT_.out (by kernel_rfl)) ?_
              refine one_ (i := 16) (N := some 14) (bA 18 131071) rfl rfl (one_of HT_.out (by kernel_rfl)) (by decide) (fun K hK => ?_)
              refine box_step ?hg (N := 14) ?hd (cs := #[.int .i64 0, .int .i64 0, .int .i64 0, .int .i64 0, .slice none 0 0, .slice none 0 0, .slice none 0 0, .int .i64 0]) (t := 42) ?hr ?_; (case hd => rfl); (case hg => rfl); (case hr => first | (go_simp; done) | (go_simp; rfl))
              intro gb237 hg w46 hbox hb
              have HS0_ := (hb.cell (World.block_lt_of_cell? _ _ (hHeld.1))).trans (hHeld.1)
              have HS1_ := (hb.cell (World.block_lt_of_cell? _ _ (hHeld.2.1))).trans (hHeld.2.1)
              have HS2_ := (hb.cell (World.block_lt_of_cell? _ _ (hHeld.2.2.1))).trans (hHeld.2.2.1)
              have HS3_ := (hb.cell (World.block_lt_of_cell? _ _ (hHeld.2.2.2))).trans (hHeld.2.2.2)
              have n0_ := Aside0.mk (Kd.V_below (Kd.V_elderB (by (with_reducible repeat (first | apply Kd.V_alloc | apply Kd.V_drewN | apply Kd.V_drew)); exact HO_4.out) gb237 (Nat.le_of_eq hg.symm)) hb)
              have n1_ := Aside0.mk (Kd.R_below (by (with_reducible repeat (first | apply Kd.R_alloc | apply Kd.R_drewN | apply Kd.R_drew)); exact HO_5.out) hb)
              have n2_ := Aside0.mk (Kd.V_below (Kd.V_elderB (by (with_reducible repeat (first | apply Kd.V_alloc | apply Kd.V_drewN | apply Kd.V_drew)); exact HO221.out) gb237 (Nat.le_of_eq hg.symm)) hb)
              have n3_ := Aside0.mk (Kd.R_below (by (with_reducible repeat (first | apply Kd.R_alloc | apply Kd.R_drewN | apply Kd.R_drew)); exact HO225.out) hb)
              have n4_ := Aside0.mk (Kd.V_below (Kd.V_elderB (by (with_reducible repeat (first | apply Kd.V_alloc | apply Kd.V_drewN | apply Kd.V_drew)); exact HO230.out) gb237 (Nat.le_of_eq hg.symm)) hb)
              have n5_ := Aside0.mk (blk_below (g := gb200) (o := .cells #[.int .i64 x201000_1, .int .i64 x201001_1, .int .i64 x201002_1, .int .i64 x201003_1, .slice none 0 0, .slice none 0 0, .slice none 0 0, .int .i64 x201007_1] 42 (0, 0)) (by (with_reducible repeat (first | refine blk_drewN ?_ _ | refine blk_drew ?_ | refine blk_alloc ?_ _)); exact BK200.out) hb)
              have n6_ := Aside0.mk (below_step (by repeat (first | (with_reducible first | exact HB.out | apply below_alloc | apply pw_below_drewN | apply below_drew1 | refine below_set ?_ GE200.out) | exact HB.out)) hb)
              have n7_ := Aside0.mk (hbox)
              have n8_ := Aside0.mk ((by rw [hg]; exact (below_size (by repeat (first | (with_reducible first | exact HB.out | apply below_alloc | apply pw_below_drewN | apply below_drew1 | refine below_set ?_ GE200.out) | exact HB.out))) : w.heap.size ≤ gb237))
              have n9_ := Aside0.mk ((by rw [hg]; exact (below_size (by repeat (first | (with_reducible first | exact HB.out | apply below_alloc | apply pw_below_drewN | apply below_drew1 | refine below_set ?_ GE200.out) | exact HB.out))) : w.heap.size ≤ gb237))
              have n10_ := Aside0.mk ((by rw [hg]; exact Nat.ne_of_lt (blk_lt (g := gb200) (o := .cells #[.int .i64 x201000_1, .int .i64 x201001_1, .int .i64 x201002_1, .int .i64 x201003_1, .slice none 0 0, .slice none 0 0, .slice none 0 0, .int .i64 x201007_1] 42 (0, 0)) (by (with_reducible repeat (first | refine blk_drewN ?_ _ | refine blk_drew ?_ | refine blk_alloc ?_ _)); exact BK200.out)) : gb200 ≠ gb237))
              have n11_ := Aside0.mk ((by rw [hg]; exact Nat.ne_of_gt (blk_lt (g := gb200) (o := .cells #[.int .i64 x201000_1, .int .i64 x201001_1, .int .i64 x201002_1, .int .i64 x201003_1, .slice none 0 0, .slice none 0 0, .slice none 0 0, .int .i64 x201007_1] 42 (0, 0)) (by (with_reducible repeat (first | refine blk_drewN ?_ _ | refine blk_drew ?_ | refine blk_alloc ?_ _)); exact BK200.out)) : gb237 ≠ gb200))
              clear HO_4
              clear HO_5
              clear HO221
              clear HO225
              clear HO230
              clear BK200
              clear HB
              have HO_4 := n0_
              have HO_5 := n1_
              have HO221 := n2_
              have HO225 := n3_
              have HO230 := n4_
              have BK200 := n5_
              have HB := n6_
              have BK237 := n7_
              have GW237 := n8_
              have GE237 := n9_
              have NB200_237 := n10_
              have NB237_200 := n11_
              clear n0_ n1_ n2_ n3_ n4_ n5_ n6_ n7_ n8_ n9_ n10_ n11_
              clear hb hbox hg
              refine hK.out _ _ ⟨HS0_, HS1_, HS2_, HS3_⟩ (fun hHeld => ?_)
              clear hK K
              refine norm_ (a' := ?_) ?_ ?_
              rotate_left
              ·show Act.put _ (some 14) _ = _
               simp only [sp_]
               rfl
              refine one_ (i := 17) (N := none) (bA 18 262143) rfl rfl (one_of HT_.out (by kernel_rfl)) (by decide) (fun K hK => ?_)
              have hs47 : w46.cell? ⟨gb237, 0, none⟩ = some (.int .i64 0) := (blk_cell BK237.out 0).trans rfl
              have hfs47 := blk_frozen BK237.out 0
              have hns47_0 := NB200_237.out
              have hms47_0 := NB237_200.out
              have hs48 : w46.cell? ⟨gb237, 1, none⟩ = some (.int .i64 0) := (blk_cell BK237.out 1).trans rfl
              have hfs48 := blk_frozen BK237.out 1
              have hns48_0 := NB200_237.out
              have hms48_0 := NB237_200.out
              have hs49 : w46.cell? ⟨gb237, 2, none⟩ = some (.int .i64 0) := (blk_cell BK237.out 2).trans rfl
              have hfs49 := blk_frozen BK237.out 2
              have hns49_0 := NB200_237.out
              have hms49_0 := NB237_200.out
              have hs50 : w46.cell? ⟨gb237, 3, none⟩ = some (.int .i64 0) := (blk_cell BK237.out 3).trans rfl
              have hfs50 := blk_frozen BK237.out 3
              have hns50_0 := NB200_237.out
              have hms50_0 := NB237_200.out
              have hs51 : w46.cell? ⟨gb237, 4, none⟩ = some (.slice none 0 0) := (blk_cell BK237.out 4).trans rfl
              have hfs51 := blk_frozen BK237.out 4
              have hns51_0 := NB200_237.out
              have hms51_0 := NB237_200.out
              have hs52 : w46.cell? ⟨gb237, 5, none⟩ = some (.slice none 0 0) := (blk_cell BK237.out 5).trans rfl
              have hfs52 := blk_frozen BK237.out 5
              have hns52_0 := NB200_237.out
              have hms52_0 := NB237_200.out
              have hs53 : w46.cell? ⟨gb237, 6, none⟩ = some (.slice none 0 0) := (blk_cell BK237.out 6).trans rfl
              have hfs53 := blk_frozen BK237.out 6
              have hns53_0 := NB200_237.out
              have hms53_0 := NB237_200.out
              have hs54 : w46.cell? ⟨gb237, 7, none⟩ = some (.int .i64 0) := (blk_cell BK237.out 7).trans rfl
              have hfs54 := blk_frozen BK237.out 7
              have hns54_0 := NB200_237.out
              have hms54_0 := NB237_200.out
              refine skip_ (w1 := ?_) (by rfl) rfl ?_ ?_
              rotate_left
              ·go_simp
               rfl
              refine hK.out _ _ ⟨((cell_far (p := ⟨gb237, _, none⟩) (by first | (dsimp only; with_reducible exact Kd.own_blk (Kd.R_ne HO_5.out BK237.out (by decide))) | exact Kd.own_blk (Kd.R_ne HO_5.out BK237.out (by decide)) | (rw [add_block]; exact Kd.own_blk (Kd.R_ne HO_5.out BK237.out (by decide))) | (show (Addr.add _ _).block ≠ _; rw [add_block]; exact Kd.own_blk (Kd.R_ne HO_5.out BK237.out (by decide))) | (dsimp only; exact Kd.own_blk (Kd.R_ne HO_5.out BK237.out (by decide)))) _).trans (((cell_far (p := ⟨gb237, _, none⟩) (by first | (dsimp only; with_reducible exact Kd.own_blk (Kd.R_ne HO_5.out BK237.out (by decide))) | exact Kd.own_blk (Kd.R_ne HO_5.out BK237.out (by decide)) | (rw [add_block]; exact Kd.own_blk (Kd.R_ne HO_5.out BK237.out (by decide))) | (show (Addr.add _ _).block ≠ _; rw [add_block]; exact Kd.own_blk (Kd.R_ne HO_5.out BK237.out (by decide))) | (dsimp only; exact Kd.own_blk (Kd.R_ne HO_5.out BK237.out (by decide)))) _).trans (((cell_far (p := ⟨gb237, _, none⟩) (by first | (dsimp only; with_reducible exact Kd.own_blk (Kd.R_ne HO_5.out BK237.out (by decide))) | exact Kd.own_blk (Kd.R_ne HO_5.out BK237.out (by decide)) | (rw [add_block]; exact Kd.own_blk (Kd.R_ne HO_5.out BK237.out (by decide))) | (show (Addr.add _ _).block ≠ _; rw [add_block]; exact Kd.own_blk (Kd.R_ne HO_5.out BK237.out (by decide))) | (dsimp only; exact Kd.own_blk (Kd.R_ne HO_5.out BK237.out (by decide)))) _).trans (((cell_far (p := ⟨gb237, _, none⟩) (by first | (dsimp only; with_reducible exact Kd.own_blk (Kd.R_ne HO_5.out BK237.out (by decide))) | exact Kd.own_blk (Kd.R_ne HO_5.out BK237.out (by decide)) | (rw [add_block]; exact Kd.own_blk (Kd.R_ne HO_5.out BK237.out (by decide))) | (show (Addr.add _ _).block ≠ _; rw [add_block]; exact Kd.own_blk (Kd.R_ne HO_5.out BK237.out (by decide))) | (dsimp only; exact Kd.own_blk (Kd.R_ne HO_5.out BK237.out (by decide)))) _).trans (((cell_far (p := ⟨gb237, _, none⟩) (by first | (dsimp only; with_reducible exact Kd.own_blk (Kd.R_ne HO_5.out BK237.out (by decide))) | exact Kd.own_blk (Kd.R_ne HO_5.out BK237.out (by decide)) | (rw [add_block]; exact Kd.own_blk (Kd.R_ne HO_5.out BK237.out (by decide))) | (show (Addr.add _ _).block ≠ _; rw [add_block]; exact Kd.own_blk (Kd.R_ne HO_5.out BK237.out (by decide))) | (dsimp only; exact Kd.own_blk (Kd.R_ne HO_5.out BK237.out (by decide)))) _).trans (((cell_far (p := ⟨gb237, _, none⟩) (by first | (dsimp only; with_reducible exact Kd.own_blk (Kd.R_ne HO_5.out BK237.out (by decide))) | exact Kd.own_blk (Kd.R_ne HO_5.out BK237.out (by decide)) | (rw [add_block]; exact Kd.own_blk (Kd.R_ne HO_5.out BK237.out (by decide))) | (show (Addr.add _ _).block ≠ _; rw [add_block]; exact Kd.own_blk (Kd.R_ne HO_5.out BK237.out (by decide))) | (dsimp only; exact Kd.own_blk (Kd.R_ne HO_5.out BK237.out (by decide)))) _).trans (((cell_far (p := ⟨gb237, _, none⟩) (by first | (dsimp only; with_reducible exact Kd.own_blk (Kd.R_ne HO_5.out BK237.out (by decide))) | exact Kd.own_blk (Kd.R_ne HO_5.out BK237.out (by decide)) | (rw [add_block]; exact Kd.own_blk (Kd.R_ne HO_5.out BK237.out (by decide))) | (show (Addr.add _ _).block ≠ _; rw [add_block]; exact Kd.own_blk (Kd.R_ne HO_5.out BK237.out (by decide))) | (dsimp only; exact Kd.own_blk (Kd.R_ne HO_5.out BK237.out (by decide)))) _).trans (((cell_far (p := ⟨gb237, _, none⟩) (by first | (dsimp only; with_reducible exact Kd.own_blk (Kd.R_ne HO_5.out BK237.out (by decide))) | exact Kd.own_blk (Kd.R_ne HO_5.out BK237.out (by decide)) | (rw [add_block]; exact Kd.own_blk (Kd.R_ne HO_5.out BK237.out (by decide))) | (show (Addr.add _ _).block ≠ _; rw [add_block]; exact Kd.own_blk (Kd.R_ne HO_5.out BK237.out (by decide))) | (dsimp only; exact Kd.own_blk (Kd.R_ne HO_5.out BK237.out (by decide)))) _).trans (hHeld.1)))))))))))))))), ((cell_far (p := ⟨gb237, _, none⟩) (by first | (dsimp only; with_reducible exact Kd.own_blk (Kd.R_ne HO_5.out BK237.out (by decide))) | exact Kd.own_blk (Kd.R_ne HO_5.out BK237.out (by decide)) | (rw [add_block]; exact Kd.own_blk (Kd.R_ne HO_5.out BK237.out (by decide))) | (show (Addr.add _ _).block ≠ _; rw [add_block]; exact Kd.own_blk (Kd.R_ne HO_5.out BK237.out (by decide))) | (dsimp only; exact Kd.own_blk (Kd.R_ne HO_5.out BK237.out (by decide)))) _).trans (((cell_far (p := ⟨gb237, _, none⟩) (by first | (dsimp only; with_reducible exact Kd.own_blk (Kd.R_ne HO_5.out BK237.out (by decide))) | exact Kd.own_blk (Kd.R_ne HO_5.out BK237.out (by decide)) | (rw [add_block]; exact Kd.own_blk (Kd.R_ne HO_5.out BK237.out (by decide))) | (show (Addr.add _ _).block ≠ _; rw [add_block]; exact Kd.own_blk (Kd.R_ne HO_5.out BK237.out (by decide))) | (dsimp only; exact Kd.own_blk (Kd.R_ne HO_5.out BK237.out (by decide)))) _).trans (((cell_far (p := ⟨gb237, _, none⟩) (by first | (dsimp only; with_reducible exact Kd.own_blk (Kd.R_ne HO_5.out BK237.out (by decide))) | exact Kd.own_blk (Kd.R_ne HO_5.out BK237.out (by decide)) | (rw [add_block]; exact Kd.own_blk (Kd.R_ne HO_5.out BK237.out (by decide))) | (show (Addr.add _ _).block ≠ _; rw [add_block]; exact Kd.own_blk (Kd.R_ne HO_5.out BK237.out (by decide))) | (dsimp only; exact Kd.own_blk (Kd.R_ne HO_5.out BK237.out (by decide)))) _).trans (((cell_far (p := ⟨gb237, _, none⟩) (by first | (dsimp only; with_reducible exact Kd.own_blk (Kd.R_ne HO_5.out BK237.out (by decide))) | exact Kd.own_blk (Kd.R_ne HO_5.out BK237.out (by decide)) | (rw [add_block]; exact Kd.own_blk (Kd.R_ne HO_5.out BK237.out (by decide))) | (show (Addr.add _ _).block ≠ _; rw [add_block]; exact Kd.own_blk (Kd.R_ne HO_5.out BK237.out (by decide))) | (dsimp only; exact Kd.own_blk (Kd.R_ne HO_5.out BK237.out (by decide)))) _).trans (((cell_far (p := ⟨gb237, _, none⟩) (by first | (dsimp only; with_reducible exact Kd.own_blk (Kd.R_ne HO_5.out BK237.out (by decide))) | exact Kd.own_blk (Kd.R_ne HO_5.out BK237.out (by decide)) | (rw [add_block]; exact Kd.own_blk (Kd.R_ne HO_5.out BK237.out (by decide))) | (show (Addr.add _ _).block ≠ _; rw [add_block]; exact Kd.own_blk (Kd.R_ne HO_5.out BK237.out (by decide))) | (dsimp only; exact Kd.own_blk (Kd.R_ne HO_5.out BK237.out (by decide)))) _).trans (((cell_far (p := ⟨gb237, _, none⟩) (by first | (dsimp only; with_reducible exact Kd.own_blk (Kd.R_ne HO_5.out BK237.out (by decide))) | exact Kd.own_blk (Kd.R_ne HO_5.out BK237.out (by decide)) | (rw [add_block]; exact Kd.own_blk (Kd.R_ne HO_5.out BK237.out (by decide))) | (show (Addr.add _ _).block ≠ _; rw [add_block]; exact Kd.own_blk (Kd.R_ne HO_5.out BK237.out (by decide))) | (dsimp only; exact Kd.own_blk (Kd.R_ne HO_5.out BK237.out (by decide)))) _).trans (((cell_far (p := ⟨gb237, _, none⟩) (by first | (dsimp only; with_reducible exact Kd.own_blk (Kd.R_ne HO_5.out BK237.out (by decide))) | exact Kd.own_blk (Kd.R_ne HO_5.out BK237.out (by decide)) | (rw [add_block]; exact Kd.own_blk (Kd.R_ne HO_5.out BK237.out (by decide))) | (show (Addr.add _ _).block ≠ _; rw [add_block]; exact Kd.own_blk (Kd.R_ne HO_5.out BK237.out (by decide))) | (dsimp only; exact Kd.own_blk (Kd.R_ne HO_5.out BK237.out (by decide)))) _).trans (((cell_far (p := ⟨gb237, _, none⟩) (by first | (dsimp only; with_reducible exact Kd.own_blk (Kd.R_ne HO_5.out BK237.out (by decide))) | exact Kd.own_blk (Kd.R_ne HO_5.out BK237.out (by decide)) | (rw [add_block]; exact Kd.own_blk (Kd.R_ne HO_5.out BK237.out (by decide))) | (show (Addr.add _ _).block ≠ _; rw [add_block]; exact Kd.own_blk (Kd.R_ne HO_5.out BK237.out (by decide))) | (dsimp only; exact Kd.own_blk (Kd.R_ne HO_5.out BK237.out (by decide)))) _).trans (hHeld.2.1)))))))))))))))), ((cell_far (p := ⟨gb237, _, none⟩) (by first | (dsimp only; with_reducible exact Kd.own_blk (Kd.R_ne HO_5.out BK237.out (by decide))) | exact Kd.own_blk (Kd.R_ne HO_5.out BK237.out (by decide)) | (rw [add_block]; exact Kd.own_blk (Kd.R_ne HO_5.out BK237.out (by decide))) | (show (Addr.add _ _).block ≠ _; rw [add_block]; exact Kd.own_blk (Kd.R_ne HO_5.out BK237.out (by decide))) | (dsimp only; exact Kd.own_blk (Kd.R_ne HO_5.out BK237.out (by decide)))) _).trans (((cell_far (p := ⟨gb237, _, none⟩) (by first | (dsimp only; with_reducible exact Kd.own_blk (Kd.R_ne HO_5.out BK237.out (by decide))) | exact Kd.own_blk (Kd.R_ne HO_5.out BK237.out (by decide)) | (rw [add_block]; exact Kd.own_blk (Kd.R_ne HO_5.out BK237.out (by decide))) | (show (Addr.add _ _).block ≠ _; rw [add_block]; exact Kd.own_blk (Kd.R_ne HO_5.out BK237.out (by decide))) | (dsimp only; exact Kd.own_blk (Kd.R_ne HO_5.out BK237.out (by decide)))) _).trans (((cell_far (p := ⟨gb237, _, none⟩) (by first | (dsimp only; with_reducible exact Kd.own_blk (Kd.R_ne HO_5.out BK237.out (by decide))) | exact Kd.own_blk (Kd.R_ne HO_5.out BK237.out (by decide)) | (rw [add_block]; exact Kd.own_blk (Kd.R_ne HO_5.out BK237.out (by decide))) | (show (Addr.add _ _).block ≠ _; rw [add_block]; exact Kd.own_blk (Kd.R_ne HO_5.out BK237.out (by decide))) | (dsimp only; exact Kd.own_blk (Kd.R_ne HO_5.out BK237.out (by decide)))) _).trans (((cell_far (p := ⟨gb237, _, none⟩) (by first | (dsimp only; with_reducible exact Kd.own_blk (Kd.R_ne HO_5.out BK237.out (by decide))) | exact Kd.own_blk (Kd.R_ne HO_5.out BK237.out (by decide)) | (rw [add_block]; exact Kd.own_blk (Kd.R_ne HO_5.out BK237.out (by decide))) | (show (Addr.add _ _).block ≠ _; rw [add_block]; exact Kd.own_blk (Kd.R_ne HO_5.out BK237.out (by decide))) | (dsimp only; exact Kd.own_blk (Kd.R_ne HO_5.out BK237.out (by decide)))) _).trans (((cell_far (p := ⟨gb237, _, none⟩) (by first | (dsimp only; with_reducible exact Kd.own_blk (Kd.R_ne HO_5.out BK237.out (by decide))) | exact Kd.own_blk (Kd.R_ne HO_5.out BK237.out (by decide)) | (rw [add_block]; exact Kd.own_blk (Kd.R_ne HO_5.out BK237.out (by decide))) | (show (Addr.add _ _).block ≠ _; rw [add_block]; exact Kd.own_blk (Kd.R_ne HO_5.out BK237.out (by decide))) | (dsimp only; exact Kd.own_blk (Kd.R_ne HO_5.out BK237.out (by decide)))) _).trans (((cell_far (p := ⟨gb237, _, none⟩) (by first | (dsimp only; with_reducible exact Kd.own_blk (Kd.R_ne HO_5.out BK237.out (by decide))) | exact Kd.own_blk (Kd.R_ne HO_5.out BK237.out (by decide)) | (rw [add_block]; exact Kd.own_blk (Kd.R_ne HO_5.out BK237.out (by decide))) | (show (Addr.add _ _).block ≠ _; rw [add_block]; exact Kd.own_blk (Kd.R_ne HO_5.out BK237.out (by decide))) | (dsimp only; exact Kd.own_blk (Kd.R_ne HO_5.out BK237.out (by decide)))) _).trans (((cell_far (p := ⟨gb237, _, none⟩) (by first | (dsimp only; with_reducible exact Kd.own_blk (Kd.R_ne HO_5.out BK237.out (by decide))) | exact Kd.own_blk (Kd.R_ne HO_5.out BK237.out (by decide)) | (rw [add_block]; exact Kd.own_blk (Kd.R_ne HO_5.out BK237.out (by decide))) | (show (Addr.add _ _).block ≠ _; rw [add_block]; exact Kd.own_blk (Kd.R_ne HO_5.out BK237.out (by decide))) | (dsimp only; exact Kd.own_blk (Kd.R_ne HO_5.out BK237.out (by decide)))) _).trans (((cell_far (p := ⟨gb237, _, none⟩) (by first | (dsimp only; with_reducible exact Kd.own_blk (Kd.R_ne HO_5.out BK237.out (by decide))) | exact Kd.own_blk (Kd.R_ne HO_5.out BK237.out (by decide)) | (rw [add_block]; exact Kd.own_blk (Kd.R_ne HO_5.out BK237.out (by decide))) | (show (Addr.add _ _).block ≠ _; rw [add_block]; exact Kd.own_blk (Kd.R_ne HO_5.out BK237.out (by decide))) | (dsimp only; exact Kd.own_blk (Kd.R_ne HO_5.out BK237.out (by decide)))) _).trans (hHeld.2.2.1)))))))))))))))), ((cell_far (p := ⟨gb237, _, none⟩) (by first | (dsimp only; with_reducible exact Kd.own_blk (Kd.R_ne HO_5.out BK237.out (by decide))) | exact Kd.own_blk (Kd.R_ne HO_5.out BK237.out (by decide)) | (rw [add_block]; exact Kd.own_blk (Kd.R_ne HO_5.out BK237.out (by decide))) | (show (Addr.add _ _).block ≠ _; rw [add_block]; exact Kd.own_blk (Kd.R_ne HO_5.out BK237.out (by decide))) | (dsimp only; exact Kd.own_blk (Kd.R_ne HO_5.out BK237.out (by decide)))) _).trans (((cell_far (p := ⟨gb237, _, none⟩) (by first | (dsimp only; with_reducible exact Kd.own_blk (Kd.R_ne HO_5.out BK237.out (by decide))) | exact Kd.own_blk (Kd.R_ne HO_5.out BK237.out (by decide)) | (rw [add_block]; exact Kd.own_blk (Kd.R_ne HO_5.out BK237.out (by decide))) | (show (Addr.add _ _).block ≠ _; rw [add_block]; exact Kd.own_blk (Kd.R_ne HO_5.out BK237.out (by decide))) | (dsimp only; exact Kd.own_blk (Kd.R_ne HO_5.out BK237.out (by decide)))) _).trans (((cell_far (p := ⟨gb237, _, none⟩) (by first | (dsimp only; with_reducible exact Kd.own_blk (Kd.R_ne HO_5.out BK237.out (by decide))) | exact Kd.own_blk (Kd.R_ne HO_5.out BK237.out (by decide)) | (rw [add_block]; exact Kd.own_blk (Kd.R_ne HO_5.out BK237.out (by decide))) | (show (Addr.add _ _).block ≠ _; rw [add_block]; exact Kd.own_blk (Kd.R_ne HO_5.out BK237.out (by decide))) | (dsimp only; exact Kd.own_blk (Kd.R_ne HO_5.out BK237.out (by decide)))) _).trans (((cell_far (p := ⟨gb237, _, none⟩) (by first | (dsimp only; with_reducible exact Kd.own_blk (Kd.R_ne HO_5.out BK237.out (by decide))) | exact Kd.own_blk (Kd.R_ne HO_5.out BK237.out (by decide)) | (rw [add_block]; exact Kd.own_blk (Kd.R_ne HO_5.out BK237.out (by decide))) | (show (Addr.add _ _).block ≠ _; rw [add_block]; exact Kd.own_blk (Kd.R_ne HO_5.out BK237.out (by decide))) | (dsimp only; exact Kd.own_blk (Kd.R_ne HO_5.out BK237.out (by decide)))) _).trans (((cell_far (p := ⟨gb237, _, none⟩) (by first | (dsimp only; with_reducible exact Kd.own_blk (Kd.R_ne HO_5.out BK237.out (by decide))) | exact Kd.own_blk (Kd.R_ne HO_5.out BK237.out (by decide)) | (rw [add_block]; exact Kd.own_blk (Kd.R_ne HO_5.out BK237.out (by decide))) | (show (Addr.add _ _).block ≠ _; rw [add_block]; exact Kd.own_blk (Kd.R_ne HO_5.out BK237.out (by decide))) | (dsimp only; exact Kd.own_blk (Kd.R_ne HO_5.out BK237.out (by decide)))) _).trans (((cell_far (p := ⟨gb237, _, none⟩) (by first | (dsimp only; with_reducible exact Kd.own_blk (Kd.R_ne HO_5.out BK237.out (by decide))) | exact Kd.own_blk (Kd.R_ne HO_5.out BK237.out (by decide)) | (rw [add_block]; exact Kd.own_blk (Kd.R_ne HO_5.out BK237.out (by decide))) | (show (Addr.add _ _).block ≠ _; rw [add_block]; exact Kd.own_blk (Kd.R_ne HO_5.out BK237.out (by decide))) | (dsimp only; exact Kd.own_blk (Kd.R_ne HO_5.out BK237.out (by decide)))) _).trans (((cell_far (p := ⟨gb237, _, none⟩) (by first | (dsimp only; with_reducible exact Kd.own_blk (Kd.R_ne HO_5.out BK237.out (by decide))) | exact Kd.own_blk (Kd.R_ne HO_5.out BK237.out (by decide)) | (rw [add_block]; exact Kd.own_blk (Kd.R_ne HO_5.out BK237.out (by decide))) | (show (Addr.add _ _).block ≠ _; rw [add_block]; exact Kd.own_blk (Kd.R_ne HO_5.out BK237.out (by decide))) | (dsimp only; exact Kd.own_blk (Kd.R_ne HO_5.out BK237.out (by decide)))) _).trans (((cell_far (p := ⟨gb237, _, none⟩) (by first | (dsimp only; with_reducible exact Kd.own_blk (Kd.R_ne HO_5.out BK237.out (by decide))) | exact Kd.own_blk (Kd.R_ne HO_5.out BK237.out (by decide)) | (rw [add_block]; exact Kd.own_blk (Kd.R_ne HO_5.out BK237.out (by decide))) | (show (Addr.add _ _).block ≠ _; rw [add_block]; exact Kd.own_blk (Kd.R_ne HO_5.out BK237.out (by decide))) | (dsimp only; exact Kd.own_blk (Kd.R_ne HO_5.out BK237.out (by decide)))) _).trans (hHeld.2.2.2))))))))))))))))⟩ (fun hHeld => ?_)
              clear hK K
              refine done_ (done_of HT_.out (by kernel_rfl)) ?_
              try go_wp2
              go_loopg [15] k1 (fun kq v15 w' => ∃ (x15_2 : Int) (x238004_2 : List Int) (x238005_2 : List Int) (u238004 : Value) (u238005 : Value), v15 = .int .i64 x15_2 ∧ Aside0 (spec_ReadBlock.l1 kq a0 x5_1 x15_2 (rd x5_1 0) (rd x5_1 1) (rd x5_1 2) (rd x5_1 3) x238004_2 x238005_2 t222 t231 = some (r1, r2, r3, r4, r5, r6, r7, r8, r9)) ∧ Aside0 (kq ≤ k1) ∧ Aside0 (Kd.R (Kd.int .i64) 2 w' w.heap.size (fun k_ => some k_ ≠ (u238004 : Value).ownBlock ∧ some k_ ≠ (u238005 : Value).ownBlock) (.slice (some ad233) x5_1.length co29) x5_1) ∧ Aside0 (Kd.R (Kd.int .i64) 2 w' w.heap.size (fun k_ => some k_ ≠ ((.slice (some ad233) x5_1.length co29) : Value).ownBlock ∧ some k_ ≠ (u238005 : Value).ownBlock) u238004 x238004_2) ∧ Aside0 (Kd.R (Kd.int .i64) 2 w' w.heap.size (fun k_ => some k_ ≠ ((.slice (some ad233) x5_1.length co29) : Value).ownBlock ∧ some k_ ≠ (u238004 : Value).ownBlock) u238005 x238005_2) ∧ Aside0 (Kd.R Kd.string 9 w' w.heap.size (fun _ => True) (.slice Ao45 t222.length co45) t222) ∧ Aside0 (w'.heap[gb200]? = some (.cells #[.int .i64 x201000_1, .int .i64 x201001_1, .int .i64 x201002_1, .int .i64 x201003_1, (.slice none 0 0), (.slice none 0 0), (.slice none 0 0), .int .i64 x201007_1] 42 (0, 0))) ∧ Aside0 (w'.heap[gb237]? = some (.cells #[.int .i64 (rd x5_1 0), .int .i64 (rd x5_1 1), .int .i64 (rd x5_1 2), .int .i64 (rd x5_1 3), u238004, u238005, (.slice Ao45 t222.length co45), .int .i64 t231] 42 (0, 0))) ∧ Aside0 (Below w.heap.size w w'))
              case atStart => exact ⟨(5), (([] : List Int)), (([] : List Int)), (.slice none 0 0), (.slice none 0 0), (by first | rfl | (simp; done) | (simp [*]; done)), H', ⟨Nat.le_refl _⟩, ⟨by (with_reducible repeat (first | apply Kd.R_alloc | apply Kd.R_drewN | apply Kd.R_drew)); exact Kd.R_mono (Kd.R_far (p := ⟨gb237, 7, none⟩) (Kd.R_far (p := ⟨gb237, 6, none⟩) (Kd.R_far (p := ⟨gb237, 5, none⟩) (Kd.R_far (p := ⟨gb237, 4, none⟩) (Kd.R_far (p := ⟨gb237, 3, none⟩) (Kd.R_far (p := ⟨gb237, 2, none⟩) (Kd.R_far (p := ⟨gb237, 1, none⟩) (Kd.R_far (p := ⟨gb237, 0, none⟩) (Kd.R_types HO_5.out BK237.out (by decide)) (fun _ hk => hk.2) (.int .i64 (rd x5_1 0))) (fun _ hk => hk.2) (.int .i64 (rd x5_1 1))) (fun _ hk => hk.2) (.int .i64 (rd x5_1 2))) (fun _ hk => hk.2) (.int .i64 (rd x5_1 3))) (fun _ hk => hk.2) (.slice none 0 0)) (fun _ hk => hk.2) (.slice none 0 0)) (fun _ hk => hk.2) (.slice Ao45 t222.length co45)) (fun _ hk => hk.2) (.int .i64 t231)) (fun _ hk => ⟨(by simp [Value.ownBlock]), (by simp [Value.ownBlock])⟩)⟩, ⟨by first | exact Kd.R_nil _ _ _ _ _ | exact Kd.N_nil _ _ _ _ _ | exact Kd.V_nil _ _ _ _ _ | exact Kd.Q_nil _ _ _ _ _ | exact Kd.S_nil _ _ _ _ _⟩, ⟨by first | exact Kd.R_nil _ _ _ _ _ | exact Kd.N_nil _ _ _ _ _ | exact Kd.V_nil _ _ _ _ _ | exact Kd.Q_nil _ _ _ _ _ | exact Kd.S_nil _ _ _ _ _⟩, ⟨by (with_reducible repeat (first | apply Kd.R_alloc | apply Kd.R_drewN | apply Kd.R_drew)); exact Kd.R_mono (Kd.R_far (p := ⟨gb237, 7, none⟩) (Kd.R_far (p := ⟨gb237, 6, none⟩) (Kd.R_far (p := ⟨gb237, 5, none⟩) (Kd.R_far (p := ⟨gb237, 4, none⟩) (Kd.R_far (p := ⟨gb237, 3, none⟩) (Kd.R_far (p := ⟨gb237, 2, none⟩) (Kd.R_far (p := ⟨gb237, 1, none⟩) (Kd.R_far (p := ⟨gb237, 0, none⟩) (Kd.R_types HO225.out BK237.out (by decide)) (fun _ hk => hk.2) (.int .i64 (rd x5_1 0))) (fun _ hk => hk.2) (.int .i64 (rd x5_1 1))) (fun _ hk => hk.2) (.int .i64 (rd x5_1 2))) (fun _ hk => hk.2) (.int .i64 (rd x5_1 3))) (fun _ hk => hk.2) (.slice none 0 0)) (fun _ hk => hk.2) (.slice none 0 0)) (fun _ hk => hk.2) (.slice Ao45 t222.length co45)) (fun _ hk => hk.2) (.int .i64 t231)) (fun _ hk => trivial)⟩, ⟨by (with_reducible repeat (first | refine blk_drewN ?_ _ | refine blk_drew ?_ | refine blk_alloc ?_ _)); refine blk_far ?_ NB200_237.out _; (with_reducible repeat (first | refine blk_drewN ?_ _ | refine blk_drew ?_ | refine blk_alloc ?_ _)); refine blk_far ?_ NB200_237.out _; (with_reducible repeat (first | refine blk_drewN ?_ _ | refine blk_drew ?_ | refine blk_alloc ?_ _)); refine blk_far ?_ NB200_237.out _; (with_reducible repeat (first | refine blk_drewN ?_ _ | refine blk_drew ?_ | refine blk_alloc ?_ _)); refine blk_far ?_ NB200_237.out _; (with_reducible repeat (first | refine blk_drewN ?_ _ | refine blk_drew ?_ | refine blk_alloc ?_ _)); refine blk_far ?_ NB200_237.out _; (with_reducible repeat (first | refine blk_drewN ?_ _ | refine blk_drew ?_ | refine blk_alloc ?_ _)); refine blk_far ?_ NB200_237.out _; (with_reducible repeat (first | refine blk_drewN ?_ _ | refine blk_drew ?_ | refine blk_alloc ?_ _)); refine blk_far ?_ NB200_237.out _; (with_reducible repeat (first | refine blk_drewN ?_ _ | refine blk_drew ?_ | refine blk_alloc ?_ _)); refine blk_far ?_ NB200_237.out _; (with_reducible repeat (first | refine blk_drewN ?_ _ | refine blk_drew ?_ | refine blk_alloc ?_ _)); exact BK200.out⟩, ⟨by (with_reducible repeat (first | refine blk_drewN ?_ _ | refine blk_drew ?_ | refine blk_alloc ?_ _)); refine blk_put (cs := #[.int .i64 (rd x5_1 0), .int .i64 (rd x5_1 1), .int .i64 (rd x5_1 2), .int .i64 (rd x5_1 3), .slice none 0 0, .slice none 0 0, .slice Ao45 t222.length co45, .int .i64 0]) ?_ 7 _ rfl; (with_reducible repeat (first | refine blk_drewN ?_ _ | refine blk_drew ?_ | refine blk_alloc ?_ _)); refine blk_put (cs := #[.int .i64 (rd x5_1 0), .int .i64 (rd x5_1 1), .int .i64 (rd x5_1 2), .int .i64 (rd x5_1 3), .slice none 0 0, .slice none 0 0, .slice none 0 0, .int .i64 0]) ?_ 6 _ rfl; (with_reducible repeat (first | refine blk_drewN ?_ _ | refine blk_drew ?_ | refine blk_alloc ?_ _)); refine blk_put (cs := #[.int .i64 (rd x5_1 0), .int .i64 (rd x5_1 1), .int .i64 (rd x5_1 2), .int .i64 (rd x5_1 3), .slice none 0 0, .slice none 0 0, .slice none 0 0, .int .i64 0]) ?_ 5 _ rfl; (with_reducible repeat (first | refine blk_drewN ?_ _ | refine blk_drew ?_ | refine blk_alloc ?_ _)); refine blk_put (cs := #[.int .i64 (rd x5_1 0), .int .i64 (rd x5_1 1), .int .i64 (rd x5_1 2), .int .i64 (rd x5_1 3), .slice none 0 0, .slice none 0 0, .slice none 0 0, .int .i64 0]) ?_ 4 _ rfl; (with_reducible repeat (first | refine blk_drewN ?_ _ | refine blk_drew ?_ | refine blk_alloc ?_ _)); refine blk_put (cs := #[.int .i64 (rd x5_1 0), .int .i64 (rd x5_1 1), .int .i64 (rd x5_1 2), .int .i64 0, .slice none 0 0, .slice none 0 0, .slice none 0 0, .int .i64 0]) ?_ 3 _ rfl; (with_reducible repeat (first | refine blk_drewN ?_ _ | refine blk_drew ?_ | refine blk_alloc ?_ _)); refine blk_put (cs := #[.int .i64 (rd x5_1 0), .int .i64 (rd x5_1 1), .int .i64 0, .int .i64 0, .slice none 0 0, .slice none 0 0, .slice none 0 0, .int .i64 0]) ?_ 2 _ rfl; (with_reducible repeat (first | refine blk_drewN ?_ _ | refine blk_drew ?_ | refine blk_alloc ?_ _)); refine blk_put (cs := #[.int .i64 (rd x5_1 0), .int .i64 0, .int .i64 0, .int .i64 0, .slice none 0 0, .slice none 0 0, .slice none 0 0, .int .i64 0]) ?_ 1 _ rfl; (with_reducible repeat (first | refine blk_drewN ?_ _ | refine blk_drew ?_ | refine blk_alloc ?_ _)); refine blk_put (cs := #[.int .i64 0, .int .i64 0, .int .i64 0, .int .i64 0, .slice none 0 0, .slice none 0 0, .slice none 0 0, .int .i64 0]) ?_ 0 _ rfl; (with_reducible repeat (first | refine blk_drewN ?_ _ | refine blk_drew ?_ | refine blk_alloc ?_ _)); exact BK237.out⟩, ⟨by repeat (first | (with_reducible first | exact HB.out | apply below_alloc | apply pw_below_drewN | apply below_drew1 | refine below_set ?_ GE200.out | refine below_set ?_ GE237.out) | exact HB.out)⟩⟩
              case round =>
               clear H'
               try clear c1
               try clear q1
               try clear c2
               try clear c2b0
               try clear c2b1
               try clear c2b2
               try clear p2
               try clear q2
               try clear hx2
               try clear qi2
               try clear c3
               try clear q3
               try clear c4
               try clear q4
               try clear p6
               try clear c8
               try clear c8b0
               try clear c9
               try clear c9b0
               try clear c9b1
               try clear c10
               try clear c10b0
               try clear c10b1
               try clear c14
               try clear q14
               try clear c16
               try clear c16b0
               try clear c16b1
               try clear c18
               try clear c22
               try clear c22b0
               try clear c22b1
               try clear c23
               try clear c23b0
               try clear p23
               try clear q23
               try clear hx23
               try clear qi23
               try clear c25
               try clear c25b0
               try clear c25b1
               try clear c26
               try clear c26b0
               try clear c26b1
               try clear c30
               try clear q30
               try clear c33
               try clear c33b0
               try clear c33b1
               try clear c36
               try clear c36b0
               try clear c36b1
               try clear c37
               try clear c37b0
               try clear c37b1
               try clear c39
               try clear c39b0
               try clear c39b1
               try clear c40
               try clear c40b0
               try clear c40b1
               try clear c41
               try clear c41b0
               try clear c41b1
               try clear c42
               try clear c42b0
               try clear c42b1
               try clear c43
               try clear q43
               try clear hcz17_0
               try clear hcz17_1
               try clear hcz17_2
               try clear hcz17_3
               try clear hcz17_4
               try clear hcz17_5
               try clear hcz17_6
               try clear hcz17_7
               try clear hcz24_0
               try clear hcz24_1
               try clear hcz24_2
               try clear hcz24_3
               try clear hcz24_4
               try clear hcz24_5
               try clear hcz24_6
               try clear hcz24_7
               try clear hcz34_0
               try clear hcz34_1
               try clear hcz34_2
               try clear hcz34_3
               try clear hcz34_4
               try clear hcz34_5
               try clear hcz34_6
               try clear hcz34_7
               try clear hfz17_0
               try clear hfz17_1
               try clear hfz17_2
               try clear hfz17_3
               try clear hfz17_4
               try clear hfz17_5
               try clear hfz17_6
               try clear hfz17_7
               try clear hfz24_0
               try clear hfz24_1
               try clear hfz24_2
               try clear hfz24_3
               try clear hfz24_4
               try clear hfz24_5
               try clear hfz24_6
               try clear hfz24_7
               try clear hfz34_0
               try clear hfz34_1
               try clear hfz34_2
               try clear hfz34_3
               try clear hfz34_4
               try clear hfz34_5
               try clear hfz34_6
               try clear hfz34_7
               try clear hx233_0
               try clear hx234_0
               try clear hx235_0
               try clear hx236_0
               try clear p2
               try clear p233
               try clear p234
               try clear p235
               try clear p236
               try clear q014
               try clear q030
               try clear q043
               try clear q14
               try clear q233
               try clear q234
               try clear q235
               try clear q236
               try clear q30
               try clear q43
               obtain ⟨x15_2, x238004_2, x238005_2, u238004, u238005, rfl, HA, HK2, HO_5, HO_238004, HO_238005, HO_238006, BK200, BK237, HB⟩ := hrel
               cases gk with
               | zero => exact absurd HA.out (by simp [spec_ReadBlock.l1])
               | succ k2 =>
                have H := HA.out
                clear HA
                simp only [spec_ReadBlock.l1] at H
                by_cases c55 : x15_2 < (x5_1.length : Int)
                ·rw [if_pos c55] at H
                 have c55b0 : decide (x15_2 < (x5_1.length : Int)) = true := decide_eq_true c55
                 clear c55
                 by_cases c56 : 0 ≤ x15_2
                 ·rw [if_pos c56] at H
                  have c56b0 : decide (0 ≤ x15_2) = true := decide_eq_true c56
                  clear c56
                  by_cases c57 : x238004_2.length < 17592186044416
                  ·rw [if_pos c57] at H
                   have LMc57 := Aside0.mk c57
                   clear c57
                   obtain ⟨y239, hy239⟩ : ∃ y_ : List Int, y_ = (x238004_2 ++ [rd x5_1 x15_2]) := ⟨_, rfl⟩
                   replace H : (if 0 ≤ (wrap64 (x15_2 + 1)) then (if (wrap64 (x15_2 + 1)) < (x5_1.length : Int) then (if x238005_2.length < 17592186044416 then (spec_ReadBlock.l1 k2 a0 x5_1 (wrap64 (x15_2 + 2)) (rd x5_1 0) (rd x5_1 1) (rd x5_1 2) (rd x5_1 3) y239 (x238005_2 ++ [rd x5_1 (wrap64 (x15_2 + 1))]) t222 t231) else (none)) else (none)) else (none)) = some (r1, r2, r3, r4, r5, r6, r7, r8, r9) := by first | (rw [hy239]; with_reducible exact H) | (have H2_ := (Option.bind_some _ _).symm.trans H; rw [hy239]; with_reducible exact H2_) | (have H2_ := (Option.bind_some _ _).symm.trans H; with_reducible exact H2_) | with_reducible exact H | (rw [hy239]; exact H) | exact H
                   have Ny239 := Aside0.mk hy239
                   clear hy239
                   obtain ⟨ji58, hji58⟩ : ∃ j_ : Int, (wrap64 (x15_2 + 1)) = j_ := ⟨_, rfl⟩
                   replace H : (if 0 ≤ (ji58) then (if (ji58) < (x5_1.length : Int) then (if x238005_2.length < 17592186044416 then (spec_ReadBlock.l1 k2 a0 x5_1 (wrap64 (x15_2 + 2)) (rd x5_1 0) (rd x5_1 1) (rd x5_1 2) (rd x5_1 3) y239 (x238005_2 ++ [rd x5_1 (ji58)]) t222 t231) else (none)) else (none)) else (none)) = some (r1, r2, r3, r4, r5, r6, r7, r8, r9) := by first | (rw [hji58] at H; exact H) | (simp only [hji58] at H ⊢; exact H)
                   have hji58w : (IntKind.i64.wrap (x15_2 + 1)) = ji58 := (i64_w _).trans hji58
                   by_cases c59 : 0 ≤ (ji58)
                   ·rw [if_pos c59] at H
                    have c59b0 : decide (0 ≤ (ji58)) = true := decide_eq_true c59
                    clear c59
                    by_cases c60 : (ji58) < (x5_1.length : Int)
                    ·rw [if_pos c60] at H
                     have c60b0 : decide ((ji58) < (x5_1.length : Int)) = true := decide_eq_true c60
                     clear c60
                     by_cases c61 : x238005_2.length < 17592186044416
                     ·rw [if_pos c61] at H
                      have LMc61 := Aside0.mk c61
                      clear c61
                      obtain ⟨y243, hy243⟩ : ∃ y_ : List Int, y_ = (x238005_2 ++ [rd x5_1 (ji58)]) := ⟨_, rfl⟩
                      replace H : (spec_ReadBlock.l1 k2 a0 x5_1 (wrap64 (x15_2 + 2)) (rd x5_1 0) (rd x5_1 1) (rd x5_1 2) (rd x5_1 3) y239 y243 t222 t231) = some (r1, r2, r3, r4, r5, r6, r7, r8, r9) := by first | (rw [hy243]; with_reducible exact H) | (have H2_ := (Option.bind_some _ _).symm.trans H; rw [hy243]; with_reducible exact H2_) | (have H2_ := (Option.bind_some _ _).symm.trans H; with_reducible exact H2_) | with_reducible exact H | (rw [hy243]; exact H) | exact H
                      have Ny243 := Aside0.mk hy243
                      clear hy243
                      have H' := Aside0.mk H
                      clear H
                      try go_wp2
                      have n0_ := Aside0.mk (Kd.R_drew HO_5.out)
                      have n1_ := Aside0.mk (Kd.R_drew HO_238004.out)
                      have n2_ := Aside0.mk (Kd.R_drew HO_238005.out)
                      have n3_ := Aside0.mk (Kd.R_drew HO_238006.out)
                      have n4_ := Aside0.mk (blk_drew BK200.out)
                      have n5_ := Aside0.mk (blk_drew BK237.out)
                      have n6_ := Aside0.mk (below_drew1 HB.out)
                      clear HO_5
                      clear HO_238004
                      clear HO_238005
                      clear HO_238006
                      clear BK200
                      clear BK237
                      clear HB
                      have HO_5 := n0_
                      have HO_238004 := n1_
                      have HO_238005 := n2_
                      have HO_238006 := n3_
                      have BK200 := n4_
                      have BK237 := n5_
                      have HB := n6_
                      clear n0_ n1_ n2_ n3_ n4_ n5_ n6_
                      have p238 : 0 ≤ (x15_2 : Int) := of_decide_eq_true (by first | (with_reducible assumption) | assumption)
                      have q238 : x15_2 < (x5_1.length : Int) := of_decide_eq_true (by first | (with_reducible assumption) | assumption)
                      obtain ⟨ad238, e238, hx238_0⟩ := Kd.at_int (Kd.R_reads' HO_5.out).2.2 x15_2 p238 q238
                      obtain rfl : ad233 = ad238 := (by injection e238)
                      replace p238 := eq_true p238
                      replace q238 := eq_true q238
                      refine start_ (n := 12) (S := fun w' => w'.cell? ⟨gb237, 0, none⟩ = some (.int .i64 (rd x5_1 0)) ∧ w'.cell? ⟨gb237, 1, none⟩ = some (.int .i64 (rd x5_1 1)) ∧ w'.cell? ⟨gb237, 2, none⟩ = some (.int .i64 (rd x5_1 2)) ∧ w'.cell? ⟨gb237, 3, none⟩ = some (.int .i64 (rd x5_1 3)) ∧ w'.cell? ⟨gb237, 4, none⟩ = some (u238004) ∧ w'.cell? ⟨gb237, 5, none⟩ = some (u238005) ∧ w'.cell? ⟨gb237, 6, none⟩ = some (.slice Ao45 t222.length co45) ∧ w'.cell? ⟨gb237, 7, none⟩ = some (.int .i64 t231) ∧ w'.cell? (ad233.add (x15_2).toNat) = some (.int .i64 (rd x5_1 x15_2))) (ds := [8, 11]) (bA 12 0) (by kernel_rfl) rfl rfl ⟨(blk_cell BK237.out 0).trans rfl, (blk_cell BK237.out 1).trans rfl, (blk_cell BK237.out 2).trans rfl, (blk_cell BK237.out 3).trans rfl, (blk_cell BK237.out 4).trans rfl, (blk_cell BK237.out 5).trans rfl, (blk_cell BK237.out 6).trans rfl, (blk_cell BK237.out 7).trans rfl, hx238_0⟩ (fun hHeld => ?_); refine with_tabW spec_ReadBlock.tab24 spec_ReadBlock.bits24 (fun HT_ HW_ => ?_)
                      generalize wr.drew = w62 at HO_5 HO_238004 HO_238005 HO_238006 BK200 BK237 HB hx238_0 hHeld ⊢
                      refine pv (i := 0) (N := some 91) (bA 12 1) rfl rfl (any_of HT_.out (by kernel_rfl)) ?_
                      refine pv (i := 1) (N := some 92) (bA 12 3) rfl rfl (any_of HT_.out (by kernel_rfl)) ?_
                      refine pv (i := 3) (N := some 94) (bA 12 11) rfl rfl (any_of HT_.out (by kernel_rfl)) ?_
                      refine pv (i := 4) (N := some 95) (bA 12 27) rfl rfl (any_of HT_.out (by kernel_rfl)) ?_
                      refine pv (i := 5) (N := some 96) (bA 12 59) rfl rfl (any_of HT_.out (by kernel_rfl)) ?_
                      refine take_ (i := 2) (N := some 93) (v := ?_) (a' := ?_) (bA 12 63) rfl rfl (take_ofW HT_.out HW_.out (by kernel_rfl)) (fun _ _ _ h => h) (Or.inl ⟨by rfl, ?_⟩) hHeld ?_ ?_
                      rotate_left
                      ·rintro w' ⟨s0, s1, s2, s3, s4, s5, s6, s7, s8⟩
                       go_simp
                       with_reducible rfl
                      rotate_left
                      ·simp only [sp_]
                       rfl
                      refine take_ (i := 6) (N := some 97) (v := ?_) (a' := ?_) (bA 12 127) rfl rfl (take_ofW HT_.out HW_.out (by kernel_rfl)) (fun _ _ _ h => h) (Or.inl ⟨by rfl, ?_⟩) hHeld ?_ ?_
                      rotate_left
                      ·rintro w' ⟨s0, s1, s2, s3, s4, s5, s6, s7, s8⟩
                       go_simp
                       with_reducible rfl
                      rotate_left
                      ·simp only [sp_]
                       rfl
                      refine one_ (i := 7) (N := some 98) (bA 12 255) rfl rfl (one_of HT_.out (by kernel_rfl)) (by decide) (fun K hK => ?_)
                      refine value_ (w1 := ?_) (v := ?_) (by rfl) rfl ?_ ?_
                      rotate_left 2
                      ·go_simp
                       constructor
                       ·rfl
                       ·rfl
                      refine hK.out _ _ ⟨(blk_cell (blk_alloc BK237.out _) 0).trans rfl, (blk_cell (blk_alloc BK237.out _) 1).trans rfl, (blk_cell (blk_alloc BK237.out _) 2).trans rfl, (blk_cell (blk_alloc BK237.out _) 3).trans rfl, (blk_cell (blk_alloc BK237.out _) 4).trans rfl, (blk_cell (blk_alloc BK237.out _) 5).trans rfl, (blk_cell (blk_alloc BK237.out _) 6).trans rfl, (blk_cell (blk_alloc BK237.out _) 7).trans rfl, (World.cell?_alloc_lt _ _ _ (World.block_lt_of_cell? _ _ (hHeld.2.2.2.2.2.2.2.2))).trans (hHeld.2.2.2.2.2.2.2.2)⟩ (fun hHeld => ?_)
                      clear hK K
                      refine norm_ (a' := ?_) ?_ ?_
                      rotate_left
                      ·show Act.put _ (some 98) _ = _
                       simp only [sp_]
                       rfl
                      refine last_ (i := 8) (N := some 99) (bA 12 511) rfl rfl (one_of HT_.out (by kernel_rfl)) (by decide) (fun K hK => ?_)
                      refine Kd.R_append_step (Kd.int .i64) (w0 := w) w.heap.size (by rfl) (.tmp 93) (.tmp 98) 33 2 (.int .i64 0) 8 rfl Try.underlying33 info2 rfl (by decide) (by omega) u238004 x238004_2 (rd x5_1 x15_2) [.int .i64 (rd x5_1 x15_2)] (fun k_ => some k_ ≠ (.slice (some ad233) x5_1.length co29 : Value).ownBlock ∧ some k_ ≠ (u238005 : Value).ownBlock) (fun _ => False) rfl rfl ?aP (fun _ hk => hk.elim) ?aF ?aO ?aB ?aS ?aL ?_
                      (case aP => exact rfl)
                      (case aB => exact (by repeat (first | (with_reducible first | exact HB.out | apply below_alloc | apply pw_below_drewN | apply below_drew1 | refine below_set ?_ GE200.out | refine below_set ?_ GE237.out) | exact HB.out)))
                      (case aF => exact (fun k_ hk => ⟨Kd.fresh' (Kd.R_lt (by (with_reducible repeat (first | apply Kd.R_alloc | apply Kd.R_drewN | apply Kd.R_drew)); exact HO_5.out)) k_ hk, Kd.fresh' (Kd.R_lt (by (with_reducible repeat (first | apply Kd.R_alloc | apply Kd.R_drewN | apply Kd.R_drew)); exact HO_238005.out)) k_ hk⟩))
                      (case aO => exact (by (with_reducible repeat (first | apply Kd.R_alloc | apply Kd.R_drewN | apply Kd.R_drew)); exact HO_238004.out))
                      (case aS => exact (below_size (by repeat (first | (with_reducible first | exact HB.out | apply below_alloc | apply pw_below_drewN | apply below_drew1 | refine below_set ?_ GE200.out | refine below_set ?_ GE237.out) | exact HB.out))))
                      (case aL => have := LMc57.out; omega)
                      intro v240 w63 ho hb hg hat
                      rw [← Ny239.out] at ho
                      have n0_ := Aside0.mk (Kd.R_after (ok := (fun k_ => some k_ ≠ (u238005 : Value).ownBlock)) (by (with_reducible repeat (first | apply Kd.R_alloc | apply Kd.R_drewN | apply Kd.R_drew)); exact Kd.R_mono HO_5.out (fun _ hk => And.intro hk.2 hk.1)) hg hat)
                      have n1_ := Aside0.mk (Kd.R_after (ok := (fun k_ => some k_ ≠ (.slice (some ad233) x5_1.length co29 : Value).ownBlock)) (by (with_reducible repeat (first | apply Kd.R_alloc | apply Kd.R_drewN | apply Kd.R_drew)); exact HO_238005.out) hg hat)
                      have n2_ := Aside0.mk (Kd.R_over' (by (with_reducible repeat (first | apply Kd.R_alloc | apply Kd.R_drewN | apply Kd.R_drew)); exact HO_238006.out) (Kd.R_typed (by (with_reducible repeat (first | apply Kd.R_alloc | apply Kd.R_drewN | apply Kd.R_drew)); exact HO_238004.out)) (by decide) hg)
                      have n3_ := Aside0.mk (blk_grown (g := gb200) (o := .cells #[.int .i64 x201000_1, .int .i64 x201001_1, .int .i64 x201002_1, .int .i64 x201003_1, .slice none 0 0, .slice none 0 0, .slice none 0 0, .int .i64 x201007_1] 42 (0, 0)) (by (with_reducible repeat (first | refine blk_drewN ?_ _ | refine blk_drew ?_ | refine blk_alloc ?_ _)); exact BK200.out) hg (Kd.R_ne HO_238004.out BK200.out (by decide)))
                      have n4_ := Aside0.mk (blk_grown (g := gb237) (o := .cells #[.int .i64 (rd x5_1 0), .int .i64 (rd x5_1 1), .int .i64 (rd x5_1 2), .int .i64 (rd x5_1 3), u238004, u238005, .slice Ao45 t222.length co45, .int .i64 t231] 42 (0, 0)) (by (with_reducible repeat (first | refine blk_drewN ?_ _ | refine blk_drew ?_ | refine blk_alloc ?_ _)); exact BK237.out) hg (Kd.R_ne HO_238004.out BK237.out (by decide)))
                      have n5_ := Aside0.mk (hb)
                      have n6_ := Aside0.mk (ho)
                      clear HO_5
                      clear HO_238005
                      clear HO_238006
                      clear BK200
                      clear BK237
                      clear HB
                      clear HO_238004
                      have HO_5 := n0_
                      have HO_238005 := n1_
                      have HO_238006 := n2_
                      have BK200 := n3_
                      have BK237 := n4_
                      have HB := n5_
                      have HO241 := n6_
                      clear n0_ n1_ n2_ n3_ n4_ n5_ n6_
                      clear ho hb hg hat
                      obtain ⟨Ao64, co64, eo64⟩ := Kd.R_slice HO241.out
                      (first | subst eo64 | (injection eo64 with f1_ f2_ f3_; have f4_ := f1_.symm; have f5_ := f3_.symm; clear f1_ f2_ f3_; subst f4_; subst f5_))
                      refine hK.out _ _ ?_
                      clear hK K
                      refine norm_ (a' := ?_) ?_ ?_
                      rotate_left
                      ·show Act.put _ (some 99) _ = _
                       simp only [sp_]
                       rfl
                      refine pv (i := 9) (N := some 100) (bA 12 1023) rfl rfl (any_of HT_.out (by kernel_rfl)) ?_
                      refine pv (i := 10) (N := some 101) (bA 12 2047) rfl rfl (any_of HT_.out (by kernel_rfl)) ?_
                      refine last_ (i := 11) (N := none) (bA 12 4095) rfl rfl (one_of HT_.out (by kernel_rfl)) (by decide) (fun K hK => ?_)
                      have hs65 : w63.cell? ⟨gb237, 4, none⟩ = some (u238004) := (blk_cell BK237.out 4).trans rfl
                      have hfs65 := blk_frozen BK237.out 4
                      have hns65_0 := NB200_237.out
                      have hms65_0 := NB237_200.out
                      refine skip_ (w1 := ?_) (by rfl) rfl ?_ ?_
                      rotate_left
                      ·go_simp
                       rfl
                      refine hK.out _ _ ?_
                      clear hK K
                      refine done_ (done_of HT_.out (by kernel_rfl)) ?_
                      try go_wp2
                      have n0_ : Aside0 (Kd.R (Kd.int .i64) 2 (w63.setCell ⟨gb237, 4, none⟩ (.slice Ao64 y239.length co64)) w.heap.size (fun k_ => some k_ ≠ (u238005 : Value).ownBlock ∧ some k_ ≠ (.slice Ao64 y239.length co64 : Value).ownBlock) (.slice (some ad233) x5_1.length co29) x5_1) := ⟨by (with_reducible repeat (first | apply Kd.R_alloc | apply Kd.R_drewN | apply Kd.R_drew)); exact Kd.R_mono (Kd.R_far (p := ⟨gb237, 4, none⟩) (Kd.R_types HO_5.out BK237.out (by decide)) (fun _ hk => hk.2) (.slice Ao64 y239.length co64)) (fun _ hk => And.intro hk.1.1 hk.1.2)⟩
                      have n1_ : Aside0 (Kd.R (Kd.int .i64) 2 (w63.setCell ⟨gb237, 4, none⟩ (.slice Ao64 y239.length co64)) w.heap.size (fun k_ => some k_ ≠ (.slice (some ad233) x5_1.length co29 : Value).ownBlock ∧ some k_ ≠ (.slice Ao64 y239.length co64 : Value).ownBlock) u238005 x238005_2) := ⟨by (with_reducible repeat (first | apply Kd.R_alloc | apply Kd.R_drewN | apply Kd.R_drew)); exact Kd.R_mono (Kd.R_far (p := ⟨gb237, 4, none⟩) (Kd.R_types HO_238005.out BK237.out (by decide)) (fun _ hk => hk.2) (.slice Ao64 y239.length co64)) (fun _ hk => And.intro hk.1.1 hk.1.2)⟩
                      have n2_ : Aside0 (Kd.R Kd.string 9 (w63.setCell ⟨gb237, 4, none⟩ (.slice Ao64 y239.length co64)) w.heap.size (fun _ => True) (.slice Ao45 t222.length co45) t222) := ⟨by (with_reducible repeat (first | apply Kd.R_alloc | apply Kd.R_drewN | apply Kd.R_drew)); exact Kd.R_mono (Kd.R_far (p := ⟨gb237, 4, none⟩) (Kd.R_types HO_238006.out BK237.out (by decide)) (fun _ hk => hk.2) (.slice Ao64 y239.length co64)) (fun _ hk => trivial)⟩
                      have n3_ : Aside0 (Kd.R (Kd.int .i64) 2 (w63.setCell ⟨gb237, 4, none⟩ (.slice Ao64 y239.length co64)) w.heap.size (fun k_ => some k_ ≠ (.slice (some ad233) x5_1.length co29 : Value).ownBlock ∧ some k_ ≠ (u238005 : Value).ownBlock) (.slice Ao64 y239.length co64) y239) := ⟨by (with_reducible repeat (first | apply Kd.R_alloc | apply Kd.R_drewN | apply Kd.R_drew)); exact Kd.R_mono (Kd.R_far (p := ⟨gb237, 4, none⟩) (Kd.R_types HO241.out BK237.out (by decide)) (fun _ hk => hk.2) (.slice Ao64 y239.length co64)) (fun _ hk => And.intro hk.1.1 hk.1.2)⟩
                      have n4_ : Aside0 ((w63.setCell ⟨gb237, 4, none⟩ (.slice Ao64 y239.length co64)).heap[gb200]? = some (.cells #[.int .i64 x201000_1, .int .i64 x201001_1, .int .i64 x201002_1, .int .i64 x201003_1, .slice none 0 0, .slice none 0 0, .slice none 0 0, .int .i64 x201007_1] 42 (0, 0))) := ⟨by (with_reducible repeat (first | refine blk_drewN ?_ _ | refine blk_drew ?_ | refine blk_alloc ?_ _)); refine blk_far ?_ NB200_237.out _; (with_reducible repeat (first | refine blk_drewN ?_ _ | refine blk_drew ?_ | refine blk_alloc ?_ _)); exact BK200.out⟩
                      have n5_ : Aside0 ((w63.setCell ⟨gb237, 4, none⟩ (.slice Ao64 y239.length co64)).heap[gb237]? = some (.cells #[.int .i64 (rd x5_1 0), .int .i64 (rd x5_1 1), .int .i64 (rd x5_1 2), .int .i64 (rd x5_1 3), .slice Ao64 y239.length co64, u238005, .slice Ao45 t222.length co45, .int .i64 t231] 42 (0, 0))) := ⟨by (with_reducible repeat (first | refine blk_drewN ?_ _ | refine blk_drew ?_ | refine blk_alloc ?_ _)); refine blk_put (cs := #[.int .i64 (rd x5_1 0), .int .i64 (rd x5_1 1), .int .i64 (rd x5_1 2), .int .i64 (rd x5_1 3), u238004, u238005, .slice Ao45 t222.length co45, .int .i64 t231]) ?_ 4 _ rfl; (with_reducible repeat (first | refine blk_drewN ?_ _ | refine blk_drew ?_ | refine blk_alloc ?_ _)); exact BK237.out⟩
                      have n6_ : Aside0 (Below w.heap.size w (w63.setCell ⟨gb237, 4, none⟩ (.slice Ao64 y239.length co64))) := ⟨by repeat (first | (with_reducible first | exact HB.out | apply below_alloc | apply pw_below_drewN | apply below_drew1 | refine below_set ?_ GE200.out | refine below_set ?_ GE237.out) | exact HB.out)⟩
                      (try clear HO_5)
                      (try clear HO_238005)
                      (try clear HO_238006)
                      (try clear HO241)
                      (try clear BK200)
                      (try clear BK237)
                      (try clear HB)
                      generalize (w63.setCell ⟨gb237, 4, none⟩ (.slice Ao64 y239.length co64)) = w66 at n0_ n1_ n2_ n3_ n4_ n5_ n6_ ⊢
                      have HO_5 := n0_
                      have HO_238005 := n1_
                      have HO_238006 := n2_
                      have HO241 := n3_
                      have BK200 := n4_
                      have BK237 := n5_
                      have HB := n6_
                      clear n0_ n1_ n2_ n3_ n4_ n5_ n6_
                      have n0_ := Aside0.mk (Kd.R_drew HO_5.out)
                      have n1_ := Aside0.mk (Kd.R_drew HO_238005.out)
                      have n2_ := Aside0.mk (Kd.R_drew HO_238006.out)
                      have n3_ := Aside0.mk (Kd.R_drew HO241.out)
                      have n4_ := Aside0.mk (blk_drew BK200.out)
                      have n5_ := Aside0.mk (blk_drew BK237.out)
                      have n6_ := Aside0.mk (below_drew1 HB.out)
                      clear HO_5
                      clear HO_238005
                      clear HO_238006
                      clear HO241
                      clear BK200
                      clear BK237
                      clear HB
                      have HO_5 := n0_
                      have HO_238005 := n1_
                      have HO_238006 := n2_
                      have HO241 := n3_
                      have BK200 := n4_
                      have BK237 := n5_
                      have HB := n6_
                      clear n0_ n1_ n2_ n3_ n4_ n5_ n6_
                      have p242 : 0 ≤ ((ji58) : Int) := of_decide_eq_true (by first | (with_reducible assumption) | assumption)
                      have q242 : (ji58) < (x5_1.length : Int) := of_decide_eq_true (by first | (with_reducible assumption) | assumption)
                      obtain ⟨ad242, e242, hx242_0⟩ := Kd.at_int (Kd.R_reads' HO_5.out).2.2 (ji58) p242 q242
                      obtain rfl : ad233 = ad242 := (by injection e242)
                      replace p242 := eq_true p242
                      replace q242 := eq_true q242
                      refine start_ (n := 13) (S := fun w' => w'.cell? ⟨gb237, 0, none⟩ = some (.int .i64 (rd x5_1 0)) ∧ w'.cell? ⟨gb237, 1, none⟩ = some (.int .i64 (rd x5_1 1)) ∧ w'.cell? ⟨gb237, 2, none⟩ = some (.int .i64 (rd x5_1 2)) ∧ w'.cell? ⟨gb237, 3, none⟩ = some (.int .i64 (rd x5_1 3)) ∧ w'.cell? ⟨gb237, 4, none⟩ = some (.slice Ao64 y239.length co64) ∧ w'.cell? ⟨gb237, 5, none⟩ = some (u238005) ∧ w'.cell? ⟨gb237, 6, none⟩ = some (.slice Ao45 t222.length co45) ∧ w'.cell? ⟨gb237, 7, none⟩ = some (.int .i64 t231) ∧ w'.cell? (ad233.add ((ji58)).toNat) = some (.int .i64 (rd x5_1 (ji58)))) (ds := [9, 12]) (bA 13 0) (by kernel_rfl) rfl rfl ⟨(blk_cell BK237.out 0).trans rfl, (blk_cell BK237.out 1).trans rfl, (blk_cell BK237.out 2).trans rfl, (blk_cell BK237.out 3).trans rfl, (blk_cell BK237.out 4).trans rfl, (blk_cell BK237.out 5).trans rfl, (blk_cell BK237.out 6).trans rfl, (blk_cell BK237.out 7).trans rfl, hx242_0⟩ (fun hHeld => ?_); refine with_tabW spec_ReadBlock.tab25 spec_ReadBlock.bits25 (fun HT_ HW_ => ?_)
                      generalize w66.drew = w67 at HO_5 HO_238005 HO_238006 HO241 BK200 BK237 HB hx242_0 hHeld ⊢
                      refine pv (i := 0) (N := some 102) (bA 13 1) rfl rfl (any_of HT_.out (by kernel_rfl)) ?_
                      refine pv (i := 1) (N := some 103) (bA 13 3) rfl rfl (any_of HT_.out (by kernel_rfl)) ?_
                      refine pv (i := 3) (N := some 105) (bA 13 11) rfl rfl (any_of HT_.out (by kernel_rfl)) ?_
                      refine pv (i := 4) (N := some 106) (bA 13 27) rfl rfl (any_of HT_.out (by kernel_rfl)) ?_
                      refine pv (i := 5) (N := some 107) (bA 13 59) rfl rfl (any_of HT_.out (by kernel_rfl)) ?_
                      refine pv (i := 6) (N := some 108) (bA 13 123) rfl rfl (any_of HT_.out (by kernel_rfl)) ?_
                      refine take_ (i := 2) (N := some 104) (v := ?_) (a' := ?_) (bA 13 127) rfl rfl (take_ofW HT_.out HW_.out (by kernel_rfl)) (fun _ _ _ h => h) (Or.inl ⟨by rfl, ?_⟩) hHeld ?_ ?_
                      rotate_left
                      ·rintro w' ⟨s0, s1, s2, s3, s4, s5, s6, s7, s8⟩
                       go_simp
                       with_reducible rfl
                      rotate_left
                      ·simp only [sp_]
                       rfl
                      refine take_ (i := 7) (N := some 109) (v := ?_) (a' := ?_) (bA 13 255) rfl rfl (take_ofW HT_.out HW_.out (by kernel_rfl)) (fun _ _ _ h => h) (Or.inl ⟨by rfl, ?_⟩) hHeld ?_ ?_
                      rotate_left
                      ·rintro w' ⟨s0, s1, s2, s3, s4, s5, s6, s7, s8⟩
                       go_simp
                       with_reducible rfl
                      rotate_left
                      ·simp only [sp_]
                       rfl
                      refine one_ (i := 8) (N := some 110) (bA 13 511) rfl rfl (one_of HT_.out (by kernel_rfl)) (by decide) (fun K hK => ?_)
                      refine value_ (w1 := ?_) (v := ?_) (by rfl) rfl ?_ ?_
                      rotate_left 2
                      ·go_simp
                       constructor
                       ·rfl
                       ·rfl
                      refine hK.out _ _ ⟨(blk_cell (blk_alloc BK237.out _) 0).trans rfl, (blk_cell (blk_alloc BK237.out _) 1).trans rfl, (blk_cell (blk_alloc BK237.out _) 2).trans rfl, (blk_cell (blk_alloc BK237.out _) 3).trans rfl, (blk_cell (blk_alloc BK237.out _) 4).trans rfl, (blk_cell (blk_alloc BK237.out _) 5).trans rfl, (blk_cell (blk_alloc BK237.out _) 6).trans rfl, (blk_cell (blk_alloc BK237.out _) 7).trans rfl, (World.cell?_alloc_lt _ _ _ (World.block_lt_of_cell? _ _ (hHeld.2.2.2.2.2.2.2.2))).trans (hHeld.2.2.2.2.2.2.2.2)⟩ (fun hHeld => ?_)
                      clear hK K
                      refine norm_ (a' := ?_) ?_ ?_
                      rotate_left
                      ·show Act.put _ (some 110) _ = _
                       simp only [sp_]
                       rfl
                      refine last_ (i := 9) (N := some 111) (bA 13 1023) rfl rfl (one_of HT_.out (by kernel_rfl)) (by decide) (fun K hK => ?_)
                      refine Kd.R_append_step (Kd.int .i64) (w0 := w) w.heap.size (by rfl) (.tmp 104) (.tmp 110) 33 2 (.int .i64 0) 8 rfl Try.underlying33 info2 rfl (by decide) (by omega) u238005 x238005_2 (rd x5_1 (ji58)) [.int .i64 (rd x5_1 (ji58))] (fun k_ => some k_ ≠ (.slice (some ad233) x5_1.length co29 : Value).ownBlock ∧ some k_ ≠ (.slice Ao64 y239.length co64 : Value).ownBlock) (fun _ => False) rfl rfl ?aP (fun _ hk => hk.elim) ?aF ?aO ?aB ?aS ?aL ?_
                      (case aP => exact rfl)
                      (case aB => exact (by repeat (first | (with_reducible first | exact HB.out | apply below_alloc | apply pw_below_drewN | apply below_drew1 | refine below_set ?_ GE200.out | refine below_set ?_ GE237.out) | exact HB.out)))
                      (case aF => exact (fun k_ hk => ⟨Kd.fresh' (Kd.R_lt (by (with_reducible repeat (first | apply Kd.R_alloc | apply Kd.R_drewN | apply Kd.R_drew)); exact HO_5.out)) k_ hk, Kd.fresh' (Kd.R_lt (by (with_reducible repeat (first | apply Kd.R_alloc | apply Kd.R_drewN | apply Kd.R_drew)); exact HO241.out)) k_ hk⟩))
                      (case aO => exact (by (with_reducible repeat (first | apply Kd.R_alloc | apply Kd.R_drewN | apply Kd.R_drew)); exact HO_238005.out))
                      (case aS => exact (below_size (by repeat (first | (with_reducible first | exact HB.out | apply below_alloc | apply pw_below_drewN | apply below_drew1 | refine below_set ?_ GE200.out | refine below_set ?_ GE237.out) | exact HB.out))))
                      (case aL => have := LMc61.out; omega)
                      intro v244 w68 ho hb hg hat
                      rw [← Ny243.out] at ho
                      have n0_ := Aside0.mk (Kd.R_after (ok := (fun k_ => some k_ ≠ (.slice Ao64 y239.length co64 : Value).ownBlock)) (by (with_reducible repeat (first | apply Kd.R_alloc | apply Kd.R_drewN | apply Kd.R_drew)); exact Kd.R_mono HO_5.out (fun _ hk => And.intro hk.2 hk.1)) hg hat)
                      have n1_ := Aside0.mk (Kd.R_over' (by (with_reducible repeat (first | apply Kd.R_alloc | apply Kd.R_drewN | apply Kd.R_drew)); exact HO_238006.out) (Kd.R_typed (by (with_reducible repeat (first | apply Kd.R_alloc | apply Kd.R_drewN | apply Kd.R_drew)); exact HO_238005.out)) (by decide) hg)
                      have n2_ := Aside0.mk (blk_grown (g := gb200) (o := .cells #[.int .i64 x201000_1, .int .i64 x201001_1, .int .i64 x201002_1, .int .i64 x201003_1, .slice none 0 0, .slice none 0 0, .slice none 0 0, .int .i64 x201007_1] 42 (0, 0)) (by (with_reducible repeat (first | refine blk_drewN ?_ _ | refine blk_drew ?_ | refine blk_alloc ?_ _)); exact BK200.out) hg (Kd.R_ne HO_238005.out BK200.out (by decide)))
                      have n3_ := Aside0.mk (blk_grown (g := gb237) (o := .cells #[.int .i64 (rd x5_1 0), .int .i64 (rd x5_1 1), .int .i64 (rd x5_1 2), .int .i64 (rd x5_1 3), .slice Ao64 y239.length co64, u238005, .slice Ao45 t222.length co45, .int .i64 t231] 42 (0, 0)) (by (with_reducible repeat (first | refine blk_drewN ?_ _ | refine blk_drew ?_ | refine blk_alloc ?_ _)); exact BK237.out) hg (Kd.R_ne HO_238005.out BK237.out (by decide)))
                      have n4_ := Aside0.mk (Kd.R_after (ok := (fun k_ => some k_ ≠ (.slice (some ad233) x5_1.length co29 : Value).ownBlock)) (by (with_reducible repeat (first | apply Kd.R_alloc | apply Kd.R_drewN | apply Kd.R_drew)); exact HO241.out) hg hat)
                      have n5_ := Aside0.mk (hb)
                      have n6_ := Aside0.mk (ho)
                      clear HO_5
                      clear HO_238006
                      clear BK200
                      clear BK237
                      clear HO241
                      clear HB
                      clear HO_238005
                      have HO_5 := n0_
                      have HO_238006 := n1_
                      have BK200 := n2_
                      have BK237 := n3_
                      have HO241 := n4_
                      have HB := n5_
                      have HO245 := n6_
                      clear n0_ n1_ n2_ n3_ n4_ n5_ n6_
                      clear ho hb hg hat
                      obtain ⟨Ao69, co69, eo69⟩ := Kd.R_slice HO245.out
                      (first | subst eo69 | (injection eo69 with f1_ f2_ f3_; have f4_ := f1_.symm; have f5_ := f3_.symm; clear f1_ f2_ f3_; subst f4_; subst f5_))
                      refine hK.out _ _ ?_
                      clear hK K
                      refine norm_ (a' := ?_) ?_ ?_
                      rotate_left
                      ·show Act.put _ (some 111) _ = _
                       simp only [sp_]
                       rfl
                      refine pv (i := 10) (N := some 112) (bA 13 2047) rfl rfl (any_of HT_.out (by kernel_rfl)) ?_
                      refine pv (i := 11) (N := some 113) (bA 13 4095) rfl rfl (any_of HT_.out (by kernel_rfl)) ?_
                      refine last_ (i := 12) (N := none) (bA 13 8191) rfl rfl (one_of HT_.out (by kernel_rfl)) (by decide) (fun K hK => ?_)
                      have hs70 : w68.cell? ⟨gb237, 5, none⟩ = some (u238005) := (blk_cell BK237.out 5).trans rfl
                      have hfs70 := blk_frozen BK237.out 5
                      have hns70_0 := NB200_237.out
                      have hms70_0 := NB237_200.out
                      refine skip_ (w1 := ?_) (by rfl) rfl ?_ ?_
                      rotate_left
                      ·go_simp
                       rfl
                      refine hK.out _ _ ?_
                      clear hK K
                      refine done_ (done_of HT_.out (by kernel_rfl)) ?_
                      try go_wp2
                      go_roundg k2
                      case measure => have := HK1.out; have := HK2.out; omega
                      case rel => exact ⟨(wrap64 (x15_2 + 2)), (y239), (y243), (.slice Ao64 y239.length co64), (.slice Ao69 y243.length co69), (by first | rfl | (simp; done) | (simp [*]; done)), H', ⟨by have := HK1.out; have := HK2.out; omega⟩, ⟨by (with_reducible repeat (first | apply Kd.R_alloc | apply Kd.R_drewN | apply Kd.R_drew)); exact Kd.R_mono (Kd.R_far (p := ⟨gb237, 5, none⟩) (Kd.R_types HO_5.out BK237.out (by decide)) (fun _ hk => hk.2) (.slice Ao69 y243.length co69)) (fun _ hk => And.intro hk.1.1 hk.1.2)⟩, ⟨by (with_reducible repeat (first | apply Kd.R_alloc | apply Kd.R_drewN | apply Kd.R_drew)); exact Kd.R_mono (Kd.R_far (p := ⟨gb237, 5, none⟩) (Kd.R_types HO241.out BK237.out (by decide)) (fun _ hk => hk.2) (.slice Ao69 y243.length co69)) (fun _ hk => And.intro hk.1.1 hk.1.2)⟩, ⟨by (with_reducible repeat (first | apply Kd.R_alloc | apply Kd.R_drewN | apply Kd.R_drew)); exact Kd.R_mono (Kd.R_far (p := ⟨gb237, 5, none⟩) (Kd.R_types HO245.out BK237.out (by decide)) (fun _ hk => hk.2) (.slice Ao69 y243.length co69)) (fun _ hk => And.intro hk.1.1 hk.1.2)⟩, ⟨by (with_reducible repeat (first | apply Kd.R_alloc | apply Kd.R_drewN | apply Kd.R_drew)); exact Kd.R_mono (Kd.R_far (p := ⟨gb237, 5, none⟩) (Kd.R_types HO_238006.out BK237.out (by decide)) (fun _ hk => hk.2) (.slice Ao69 y243.length co69)) (fun _ hk => trivial)⟩, ⟨by (with_reducible repeat (first | refine blk_drewN ?_ _ | refine blk_drew ?_ | refine blk_alloc ?_ _)); refine blk_far ?_ NB200_237.out _; (with_reducible repeat (first | refine blk_drewN ?_ _ | refine blk_drew ?_ | refine blk_alloc ?_ _)); exact BK200.out⟩, ⟨by (with_reducible repeat (first | refine blk_drewN ?_ _ | refine blk_drew ?_ | refine blk_alloc ?_ _)); refine blk_put (cs := #[.int .i64 (rd x5_1 0), .int .i64 (rd x5_1 1), .int .i64 (rd x5_1 2), .int .i64 (rd x5_1 3), .slice Ao64 y239.length co64, u238005, .slice Ao45 t222.length co45, .int .i64 t231]) ?_ 5 _ rfl; (with_reducible repeat (first | refine blk_drewN ?_ _ | refine blk_drew ?_ | refine blk_alloc ?_ _)); exact BK237.out⟩, ⟨by repeat (first | (with_reducible first | exact HB.out | apply below_alloc | apply pw_below_drewN | apply below_drew1 | refine below_set ?_ GE200.out | refine below_set ?_ GE237.out) | exact HB.out)⟩⟩
                     ·rw [if_neg c61] at H
                      exact absurd H (by simp)
                    ·rw [if_neg c60] at H
                     exact absurd H (by simp)
                   ·rw [if_neg c59] at H
                    exact absurd H (by simp)
                  ·rw [if_neg c57] at H
                   exact absurd H (by simp)
                 ·rw [if_neg c56] at H
                  exact absurd H (by simp)
                ·rw [if_neg c55] at H
                 have c55b0 : decide (x15_2 < (x5_1.length : Int)) = false := decide_eq_false c55
                 clear c55
                 replace H := Option.bind_eq_some_iff.mp H
                 obtain ⟨t246, A710, H⟩ := H
                 replace H : (if t246.toList = a0.toList then (if a0.toList = ([] : List UInt8) then (some (0, 0, 0, 0, ([] : List Int), ([] : List Int), ([] : List ByteArray), 0, false)) else (some ((rd x5_1 0), (rd x5_1 1), (rd x5_1 2), (rd x5_1 3), x238004_2, x238005_2, t222, t231, true))) else (some (0, 0, 0, 0, ([] : List Int), ([] : List Int), ([] : List ByteArray), 0, false))) = some (r1, r2, r3, r4, r5, r6, r7, r8, r9) := H
                 have A71 := Aside0.mk A710
                 clear A710
                 by_cases c72 : t246.toList = a0.toList
                 ·rw [if_pos c72] at H
                  have c72b0 : (t246.toList == a0.toList) = true := beq_iff_eq.mpr c72
                  have c72b1 : (t246.toList != a0.toList) = false := bne_eq_false_iff_eq.mpr c72
                  clear c72
                  have HC73 := Aside0.mk H
                  clear H
                  have hnb74 := NB237_200.out
                  have hnc74 := NB200_237.out
                  have hcz75_0 : wr.cell? ⟨gb237, 0, none⟩ = some (.int .i64 (rd x5_1 0)) := (blk_cell BK237.out 0).trans rfl
                  have hcz75_1 : wr.cell? ⟨gb237, 1, none⟩ = some (.int .i64 (rd x5_1 1)) := (blk_cell BK237.out 1).trans rfl
                  have hcz75_2 : wr.cell? ⟨gb237, 2, none⟩ = some (.int .i64 (rd x5_1 2)) := (blk_cell BK237.out 2).trans rfl
                  have hcz75_3 : wr.cell? ⟨gb237, 3, none⟩ = some (.int .i64 (rd x5_1 3)) := (blk_cell BK237.out 3).trans rfl
                  have hcz75_4 : wr.cell? ⟨gb237, 4, none⟩ = some (u238004) := (blk_cell BK237.out 4).trans rfl
                  have hcz75_5 : wr.cell? ⟨gb237, 5, none⟩ = some (u238005) := (blk_cell BK237.out 5).trans rfl
                  have hcz75_6 : wr.cell? ⟨gb237, 6, none⟩ = some (.slice Ao45 t222.length co45) := (blk_cell BK237.out 6).trans rfl
                  have hcz75_7 : wr.cell? ⟨gb237, 7, none⟩ = some (.int .i64 t231) := (blk_cell BK237.out 7).trans rfl
                  have hfz75_0 := blk_frozen BK237.out 0
                  have hfz75_1 := blk_frozen BK237.out 1
                  have hfz75_2 := blk_frozen BK237.out 2
                  have hfz75_3 := blk_frozen BK237.out 3
                  have hfz75_4 := blk_frozen BK237.out 4
                  have hfz75_5 := blk_frozen BK237.out 5
                  have hfz75_6 := blk_frozen BK237.out 6
                  have hfz75_7 := blk_frozen BK237.out 7
                  obtain ⟨Ao76, co76, eo76⟩ := Kd.R_slice HO_238004.out
                  subst eo76
                  obtain ⟨Ao77, co77, eo77⟩ := Kd.R_slice HO_238005.out
                  subst eo77
                  go_upto_if 121 with (first | ((with_reducible refine gate_callee (f := 22) rfl ?_); refine goesL_ (some 115) rfl rfl Try.func22 (by kernel_rfl) rfl #[.agg #[.int .i64 (rd x5_1 0), .int .i64 (rd x5_1 1), .int .i64 (rd x5_1 2), .int .i64 (rd x5_1 3), .slice Ao76 x238004_2.length co76, .slice Ao77 x238005_2.length co77, .slice Ao45 t222.length co45, .int .i64 t231]] rfl (by (try simp only [List.map_toArray, List.map_cons, List.map_nil]); first | done | rfl | (simp only [List.length_drop, List.length_take]; rfl)) ?_; (with_reducible refine (spec_ShowBlock.calls k2 (rd x5_1 0) (rd x5_1 1) (rd x5_1 2) (rd x5_1 3) _ _ x238004_2 _ _ x238005_2 _ _ t222 t231 t246 _ ?side1 ?side2 ?side3 ?side4 ?side5 ?side6 A71.out).mono ?_); (case side1 => repeat (first | exact (Kd.R_reads' HO_238004.out).2.2 | (with_reducible refine Kd.C_alloc ?_ _) | (with_reducible refine Kd.C_drewN ?_ _) | (with_reducible refine Kd.C_drew ?_))); (case side2 => exact (Kd.R_reads' HO_238004.out).2.1); (case side3 => repeat (first | exact (Kd.R_reads' HO_238005.out).2.2 | (with_reducible refine Kd.C_alloc ?_ _) | (with_reducible refine Kd.C_drewN ?_ _) | (with_reducible refine Kd.C_drew ?_))); (case side4 => exact (Kd.R_reads' HO_238005.out).2.1); (case side5 => repeat (first | exact (Kd.R_reads' HO_238006.out).2.2 | (with_reducible refine Kd.C_alloc ?_ _) | (with_reducible refine Kd.C_drewN ?_ _) | (with_reducible refine Kd.C_drew ?_))); (case side6 => exact (Kd.R_reads' HO_238006.out).2.1); rintro e w78 ⟨rfl, hb⟩; refine ⟨_, rfl, ?_⟩; have n0_ := Aside0.mk (Kd.R_below (by (with_reducible repeat (first | apply Kd.R_alloc | apply Kd.R_drewN | apply Kd.R_drew)); exact HO_5.out) hb); have n1_ := Aside0.mk (Kd.R_below (by (with_reducible repeat (first | apply Kd.R_alloc | apply Kd.R_drewN | apply Kd.R_drew)); exact HO_238004.out) hb); have n2_ := Aside0.mk (Kd.R_below (by (with_reducible repeat (first | apply Kd.R_alloc | apply Kd.R_drewN | apply Kd.R_drew)); exact HO_238005.out) hb); have n3_ := Aside0.mk (Kd.R_below (by (with_reducible repeat (first | apply Kd.R_alloc | apply Kd.R_drewN | apply Kd.R_drew)); exact HO_238006.out) hb); have n4_ := Aside0.mk (blk_below (g := gb200) (o := .cells #[.int .i64 x201000_1, .int .i64 x201001_1, .int .i64 x201002_1, .int .i64 x201003_1, .slice none 0 0, .slice none 0 0, .slice none 0 0, .int .i64 x201007_1] 42 (0, 0)) (by (with_reducible repeat (first | refine blk_drewN ?_ _ | refine blk_drew ?_ | refine blk_alloc ?_ _)); exact BK200.out) hb); have n5_ := Aside0.mk (blk_below (g := gb237) (o := .cells #[.int .i64 (rd x5_1 0), .int .i64 (rd x5_1 1), .int .i64 (rd x5_1 2), .int .i64 (rd x5_1 3), .slice Ao76 x238004_2.length co76, .slice Ao77 x238005_2.length co77, .slice Ao45 t222.length co45, .int .i64 t231] 42 (0, 0)) (by (with_reducible repeat (first | refine blk_drewN ?_ _ | refine blk_drew ?_ | refine blk_alloc ?_ _)); exact BK237.out) hb); have n6_ := Aside0.mk (below_step (by repeat (first | (with_reducible first | exact HB.out | apply below_alloc | apply pw_below_drewN | apply below_drew1 | refine below_set ?_ GE200.out | refine below_set ?_ GE237.out) | exact HB.out)) hb); clear HO_5; clear HO_238004; clear HO_238005; clear HO_238006; clear BK200; clear BK237; clear HB; have HO_5 := n0_; have HO_238004 := n1_; have HO_238005 := n2_; have HO_238006 := n3_; have BK200 := n4_; have BK237 := n5_; have HB := n6_; clear n0_ n1_ n2_ n3_ n4_ n5_ n6_; (try clear hb); (try clear hb2); (try clear hk); (try clear hi)))
                  (try simp only [Act.put, List.setIfInBounds_toArray, List.set_cons_zero, List.set_cons_succ])
                  have H := HC73.out
                  clear HC73
                  by_cases c79 : a0.toList = ([] : List UInt8)
                  ·rw [if_pos c79] at H
                   have c79b0 : (a0.toList == ([] : List UInt8)) = true := beq_iff_eq.mpr c79
                   have c79b9 : (a0).toList.isEmpty = true := by rw [eq_of_beq c79b0]; rfl
                   have c79b1 : (a0.toList != ([] : List UInt8)) = false := bne_eq_false_iff_eq.mpr c79
                   clear c79
                   (first | rw [c79b0] | (simp only [i64_w, i32_w]; rw [c79b0]) | skip)
                   try rw [c79b1]
                   try rw [c79b9]
                   simp only [Option.some.injEq, Prod.mk.injEq] at H
                   obtain ⟨rfl, rfl, rfl, rfl, rfl, rfl, rfl, rfl, rfl⟩ := H
                   have hnb80 := NB200_237.out
                   have hnc80 := NB237_200.out
                   have hcz81_0 : w78.cell? ⟨gb200, 0, none⟩ = some (.int .i64 x201000_1) := (blk_cell BK200.out 0).trans rfl
                   have hcz81_1 : w78.cell? ⟨gb200, 1, none⟩ = some (.int .i64 x201001_1) := (blk_cell BK200.out 1).trans rfl
                   have hcz81_2 : w78.cell? ⟨gb200, 2, none⟩ = some (.int .i64 x201002_1) := (blk_cell BK200.out 2).trans rfl
                   have hcz81_3 : w78.cell? ⟨gb200, 3, none⟩ = some (.int .i64 x201003_1) := (blk_cell BK200.out 3).trans rfl
                   have hcz81_4 : w78.cell? ⟨gb200, 4, none⟩ = some (.slice none 0 0) := (blk_cell BK200.out 4).trans rfl
                   have hcz81_5 : w78.cell? ⟨gb200, 5, none⟩ = some (.slice none 0 0) := (blk_cell BK200.out 5).trans rfl
                   have hcz81_6 : w78.cell? ⟨gb200, 6, none⟩ = some (.slice none 0 0) := (blk_cell BK200.out 6).trans rfl
                   have hcz81_7 : w78.cell? ⟨gb200, 7, none⟩ = some (.int .i64 x201007_1) := (blk_cell BK200.out 7).trans rfl
                   have hfz81_0 := blk_frozen BK200.out 0
                   have hfz81_1 := blk_frozen BK200.out 1
                   have hfz81_2 := blk_frozen BK200.out 2
                   have hfz81_3 := blk_frozen BK200.out 3
                   have hfz81_4 := blk_frozen BK200.out 4
                   have hfz81_5 := blk_frozen BK200.out 5
                   have hfz81_6 := blk_frozen BK200.out 6
                   have hfz81_7 := blk_frozen BK200.out 7
                   go_wp2
                   refine bodyPost_ret (results_ct rfl _ _ gb200 42 #[.int .i64 0, .int .i64 0, .int .i64 0, .int .i64 0, .slice none 0 0, .slice none 0 0, .slice none 0 0, .int .i64 0] (0, 0) _ rfl (by (with_reducible repeat (first | refine blk_drewN ?_ _ | refine blk_drew ?_ | refine blk_alloc ?_ _)); refine blk_put (cs := #[.int .i64 0, .int .i64 0, .int .i64 0, .int .i64 0, .slice none 0 0, .slice none 0 0, .slice none 0 0, .int .i64 x201007_1]) ?_ 7 _ rfl; (with_reducible repeat (first | refine blk_drewN ?_ _ | refine blk_drew ?_ | refine blk_alloc ?_ _)); refine blk_put (cs := #[.int .i64 0, .int .i64 0, .int .i64 0, .int .i64 0, .slice none 0 0, .slice none 0 0, .slice none 0 0, .int .i64 x201007_1]) ?_ 6 _ rfl; (with_reducible repeat (first | refine blk_drewN ?_ _ | refine blk_drew ?_ | refine blk_alloc ?_ _)); refine blk_put (cs := #[.int .i64 0, .int .i64 0, .int .i64 0, .int .i64 0, .slice none 0 0, .slice none 0 0, .slice none 0 0, .int .i64 x201007_1]) ?_ 5 _ rfl; (with_reducible repeat (first | refine blk_drewN ?_ _ | refine blk_drew ?_ | refine blk_alloc ?_ _)); refine blk_put (cs := #[.int .i64 0, .int .i64 0, .int .i64 0, .int .i64 0, .slice none 0 0, .slice none 0 0, .slice none 0 0, .int .i64 x201007_1]) ?_ 4 _ rfl; (with_reducible repeat (first | refine blk_drewN ?_ _ | refine blk_drew ?_ | refine blk_alloc ?_ _)); refine blk_put (cs := #[.int .i64 0, .int .i64 0, .int .i64 0, .int .i64 x201003_1, .slice none 0 0, .slice none 0 0, .slice none 0 0, .int .i64 x201007_1]) ?_ 3 _ rfl; (with_reducible repeat (first | refine blk_drewN ?_ _ | refine blk_drew ?_ | refine blk_alloc ?_ _)); refine blk_put (cs := #[.int .i64 0, .int .i64 0, .int .i64 x201002_1, .int .i64 x201003_1, .slice none 0 0, .slice none 0 0, .slice none 0 0, .int .i64 x201007_1]) ?_ 2 _ rfl; (with_reducible repeat (first | refine blk_drewN ?_ _ | refine blk_drew ?_ | refine blk_alloc ?_ _)); refine blk_put (cs := #[.int .i64 0, .int .i64 x201001_1, .int .i64 x201002_1, .int .i64 x201003_1, .slice none 0 0, .slice none 0 0, .slice none 0 0, .int .i64 x201007_1]) ?_ 1 _ rfl; (with_reducible repeat (first | refine blk_drewN ?_ _ | refine blk_drew ?_ | refine blk_alloc ?_ _)); refine blk_put (cs := #[.int .i64 x201000_1, .int .i64 x201001_1, .int .i64 x201002_1, .int .i64 x201003_1, .slice none 0 0, .slice none 0 0, .slice none 0 0, .int .i64 x201007_1]) ?_ 0 _ rfl; (with_reducible repeat (first | refine blk_drewN ?_ _ | refine blk_drew ?_ | refine blk_alloc ?_ _)); exact BK200.out) Try.underlying42 rfl (by kernel_rfl)) rfl ?_
                   exact ⟨_, _, _, by first | rfl | (simp [errW_none, errW_some] <;> rfl) | (simp only [← hji35]; first | rfl | (simp [errW_none, errW_some] <;> rfl)) | (simp [*, errW_none, errW_some] <;> rfl), by first | exact Kd.R_nil _ _ _ _ _ | exact Kd.N_nil _ _ _ _ _ | exact Kd.V_nil _ _ _ _ _ | exact Kd.Q_nil _ _ _ _ _ | exact Kd.S_nil _ _ _ _ _, by first | exact Kd.R_nil _ _ _ _ _ | exact Kd.N_nil _ _ _ _ _ | exact Kd.V_nil _ _ _ _ _ | exact Kd.Q_nil _ _ _ _ _ | exact Kd.S_nil _ _ _ _ _, by first | exact Kd.R_nil _ _ _ _ _ | exact Kd.N_nil _ _ _ _ _ | exact Kd.V_nil _ _ _ _ _ | exact Kd.Q_nil _ _ _ _ _ | exact Kd.S_nil _ _ _ _ _, by repeat (first | (with_reducible first | exact HB.out | apply below_alloc | apply pw_below_drewN | apply below_drew1 | refine below_set ?_ GE200.out | refine below_set ?_ GE237.out) | exact HB.out)⟩
                  ·rw [if_neg c79] at H
                   have c79b0 : (a0.toList == ([] : List UInt8)) = false := beq_eq_false_iff_ne.mpr c79
                   have c79b9 : (a0).toList.isEmpty = false := by cases hz_ : (a0).toList with | nil => (rw [hz_] at c79b0; exact absurd c79b0 (by decide)) | cons _ _ => rfl
                   have c79b1 : (a0.toList != ([] : List UInt8)) = true := bne_iff_ne.mpr c79
                   (first | rw [c79b0] | (simp only [i64_w, i32_w]; rw [c79b0]) | skip)
                   try rw [c79b1]
                   try rw [c79b9]
                   simp only [Option.some.injEq, Prod.mk.injEq] at H
                   obtain ⟨rfl, rfl, rfl, rfl, rfl, rfl, rfl, rfl, rfl⟩ := H
                   have hnb82 := NB237_200.out
                   have hnc82 := NB200_237.out
                   have hcz83_0 : w78.cell? ⟨gb237, 0, none⟩ = some (.int .i64 (rd x5_1 0)) := (blk_cell BK237.out 0).trans rfl
                   have hcz83_1 : w78.cell? ⟨gb237, 1, none⟩ = some (.int .i64 (rd x5_1 1)) := (blk_cell BK237.out 1).trans rfl
                   have hcz83_2 : w78.cell? ⟨gb237, 2, none⟩ = some (.int .i64 (rd x5_1 2)) := (blk_cell BK237.out 2).trans rfl
                   have hcz83_3 : w78.cell? ⟨gb237, 3, none⟩ = some (.int .i64 (rd x5_1 3)) := (blk_cell BK237.out 3).trans rfl
                   have hcz83_4 : w78.cell? ⟨gb237, 4, none⟩ = some (.slice Ao76 x238004_2.length co76) := (blk_cell BK237.out 4).trans rfl
                   have hcz83_5 : w78.cell? ⟨gb237, 5, none⟩ = some (.slice Ao77 x238005_2.length co77) := (blk_cell BK237.out 5).trans rfl
                   have hcz83_6 : w78.cell? ⟨gb237, 6, none⟩ = some (.slice Ao45 t222.length co45) := (blk_cell BK237.out 6).trans rfl
                   have hcz83_7 : w78.cell? ⟨gb237, 7, none⟩ = some (.int .i64 t231) := (blk_cell BK237.out 7).trans rfl
                   have hfz83_0 := blk_frozen BK237.out 0
                   have hfz83_1 := blk_frozen BK237.out 1
                   have hfz83_2 := blk_frozen BK237.out 2
                   have hfz83_3 := blk_frozen BK237.out 3
                   have hfz83_4 := blk_frozen BK237.out 4
                   have hfz83_5 := blk_frozen BK237.out 5
                   have hfz83_6 := blk_frozen BK237.out 6
                   have hfz83_7 := blk_frozen BK237.out 7
                   have hcz84_0 : w78.cell? ⟨gb200, 0, none⟩ = some (.int .i64 x201000_1) := (blk_cell BK200.out 0).trans rfl
                   have hcz84_1 : w78.cell? ⟨gb200, 1, none⟩ = some (.int .i64 x201001_1) := (blk_cell BK200.out 1).trans rfl
                   have hcz84_2 : w78.cell? ⟨gb200, 2, none⟩ = some (.int .i64 x201002_1) := (blk_cell BK200.out 2).trans rfl
                   have hcz84_3 : w78.cell? ⟨gb200, 3, none⟩ = some (.int .i64 x201003_1) := (blk_cell BK200.out 3).trans rfl
                   have hcz84_4 : w78.cell? ⟨gb200, 4, none⟩ = some (.slice none 0 0) := (blk_cell BK200.out 4).trans rfl
                   have hcz84_5 : w78.cell? ⟨gb200, 5, none⟩ = some (.slice none 0 0) := (blk_cell BK200.out 5).trans rfl
                   have hcz84_6 : w78.cell? ⟨gb200, 6, none⟩ = some (.slice none 0 0) := (blk_cell BK200.out 6).trans rfl
                   have hcz84_7 : w78.cell? ⟨gb200, 7, none⟩ = some (.int .i64 x201007_1) := (blk_cell BK200.out 7).trans rfl
                   have hfz84_0 := blk_frozen BK200.out 0
                   have hfz84_1 := blk_frozen BK200.out 1
                   have hfz84_2 := blk_frozen BK200.out 2
                   have hfz84_3 := blk_frozen BK200.out 3
                   have hfz84_4 := blk_frozen BK200.out 4
                   have hfz84_5 := blk_frozen BK200.out 5
                   have hfz84_6 := blk_frozen BK200.out 6
                   have hfz84_7 := blk_frozen BK200.out 7
                   go_wp2
                   refine bodyPost_ret (results_ct rfl _ _ gb200 42 #[.int .i64 (rd x5_1 0), .int .i64 (rd x5_1 1), .int .i64 (rd x5_1 2), .int .i64 (rd x5_1 3), .slice Ao76 x238004_2.length co76, .slice Ao77 x238005_2.length co77, .slice Ao45 t222.length co45, .int .i64 t231] (0, 0) _ rfl (by (with_reducible repeat (first | refine blk_drewN ?_ _ | refine blk_drew ?_ | refine blk_alloc ?_ _)); refine blk_put (cs := #[.int .i64 (rd x5_1 0), .int .i64 (rd x5_1 1), .int .i64 (rd x5_1 2), .int .i64 (rd x5_1 3), .slice Ao76 x238004_2.length co76, .slice Ao77 x238005_2.length co77, .slice Ao45 t222.length co45, .int .i64 x201007_1]) ?_ 7 _ rfl; (with_reducible repeat (first | refine blk_drewN ?_ _ | refine blk_drew ?_ | refine blk_alloc ?_ _)); refine blk_put (cs := #[.int .i64 (rd x5_1 0), .int .i64 (rd x5_1 1), .int .i64 (rd x5_1 2), .int .i64 (rd x5_1 3), .slice Ao76 x238004_2.length co76, .slice Ao77 x238005_2.length co77, .slice none 0 0, .int .i64 x201007_1]) ?_ 6 _ rfl; (with_reducible repeat (first | refine blk_drewN ?_ _ | refine blk_drew ?_ | refine blk_alloc ?_ _)); refine blk_put (cs := #[.int .i64 (rd x5_1 0), .int .i64 (rd x5_1 1), .int .i64 (rd x5_1 2), .int .i64 (rd x5_1 3), .slice Ao76 x238004_2.length co76, .slice none 0 0, .slice none 0 0, .int .i64 x201007_1]) ?_ 5 _ rfl; (with_reducible repeat (first | refine blk_drewN ?_ _ | refine blk_drew ?_ | refine blk_alloc ?_ _)); refine blk_put (cs := #[.int .i64 (rd x5_1 0), .int .i64 (rd x5_1 1), .int .i64 (rd x5_1 2), .int .i64 (rd x5_1 3), .slice none 0 0, .slice none 0 0, .slice none 0 0, .int .i64 x201007_1]) ?_ 4 _ rfl; (with_reducible repeat (first | refine blk_drewN ?_ _ | refine blk_drew ?_ | refine blk_alloc ?_ _)); refine blk_put (cs := #[.int .i64 (rd x5_1 0), .int .i64 (rd x5_1 1), .int .i64 (rd x5_1 2), .int .i64 x201003_1, .slice none 0 0, .slice none 0 0, .slice none 0 0, .int .i64 x201007_1]) ?_ 3 _ rfl; (with_reducible repeat (first | refine blk_drewN ?_ _ | refine blk_drew ?_ | refine blk_alloc ?_ _)); refine blk_put (cs := #[.int .i64 (rd x5_1 0), .int .i64 (rd x5_1 1), .int .i64 x201002_1, .int .i64 x201003_1, .slice none 0 0, .slice none 0 0, .slice none 0 0, .int .i64 x201007_1]) ?_ 2 _ rfl; (with_reducible repeat (first | refine blk_drewN ?_ _ | refine blk_drew ?_ | refine blk_alloc ?_ _)); refine blk_put (cs := #[.int .i64 (rd x5_1 0), .int .i64 x201001_1, .int .i64 x201002_1, .int .i64 x201003_1, .slice none 0 0, .slice none 0 0, .slice none 0 0, .int .i64 x201007_1]) ?_ 1 _ rfl; (with_reducible repeat (first | refine blk_drewN ?_ _ | refine blk_drew ?_ | refine blk_alloc ?_ _)); refine blk_put (cs := #[.int .i64 x201000_1, .int .i64 x201001_1, .int .i64 x201002_1, .int .i64 x201003_1, .slice none 0 0, .slice none 0 0, .slice none 0 0, .int .i64 x201007_1]) ?_ 0 _ rfl; (with_reducible repeat (first | refine blk_drewN ?_ _ | refine blk_drew ?_ | refine blk_alloc ?_ _)); exact BK200.out) Try.underlying42 rfl (by kernel_rfl)) rfl ?_
                   exact ⟨_, _, _, by first | rfl | (simp [errW_none, errW_some] <;> rfl) | (simp only [← hji35]; first | rfl | (simp [errW_none, errW_some] <;> rfl)) | (simp [*, errW_none, errW_some] <;> rfl), by (with_reducible repeat (first | apply Kd.R_alloc | apply Kd.R_drewN | apply Kd.R_drew)); exact Kd.R_mono (Kd.R_far (p := ⟨gb200, 7, none⟩) (Kd.R_far (p := ⟨gb200, 6, none⟩) (Kd.R_far (p := ⟨gb200, 5, none⟩) (Kd.R_far (p := ⟨gb200, 4, none⟩) (Kd.R_far (p := ⟨gb200, 3, none⟩) (Kd.R_far (p := ⟨gb200, 2, none⟩) (Kd.R_far (p := ⟨gb200, 1, none⟩) (Kd.R_far (p := ⟨gb200, 0, none⟩) (Kd.R_types HO_238004.out BK200.out (by decide)) (fun _ hk => hk.2) (.int .i64 (rd x5_1 0))) (fun _ hk => hk.2) (.int .i64 (rd x5_1 1))) (fun _ hk => hk.2) (.int .i64 (rd x5_1 2))) (fun _ hk => hk.2) (.int .i64 (rd x5_1 3))) (fun _ hk => hk.2) (.slice Ao76 x238004_2.length co76)) (fun _ hk => hk.2) (.slice Ao77 x238005_2.length co77)) (fun _ hk => hk.2) (.slice Ao45 t222.length co45)) (fun _ hk => hk.2) (.int .i64 t231)) (fun _ hk => hk.1.2), by (with_reducible repeat (first | apply Kd.R_alloc | apply Kd.R_drewN | apply Kd.R_drew)); exact Kd.R_mono (Kd.R_far (p := ⟨gb200, 7, none⟩) (Kd.R_far (p := ⟨gb200, 6, none⟩) (Kd.R_far (p := ⟨gb200, 5, none⟩) (Kd.R_far (p := ⟨gb200, 4, none⟩) (Kd.R_far (p := ⟨gb200, 3, none⟩) (Kd.R_far (p := ⟨gb200, 2, none⟩) (Kd.R_far (p := ⟨gb200, 1, none⟩) (Kd.R_far (p := ⟨gb200, 0, none⟩) (Kd.R_types HO_238005.out BK200.out (by decide)) (fun _ hk => hk.2) (.int .i64 (rd x5_1 0))) (fun _ hk => hk.2) (.int .i64 (rd x5_1 1))) (fun _ hk => hk.2) (.int .i64 (rd x5_1 2))) (fun _ hk => hk.2) (.int .i64 (rd x5_1 3))) (fun _ hk => hk.2) (.slice Ao76 x238004_2.length co76)) (fun _ hk => hk.2) (.slice Ao77 x238005_2.length co77)) (fun _ hk => hk.2) (.slice Ao45 t222.length co45)) (fun _ hk => hk.2) (.int .i64 t231)) (fun _ hk => hk.1.2), by (with_reducible repeat (first | apply Kd.R_alloc | apply Kd.R_drewN | apply Kd.R_drew)); exact Kd.R_mono (Kd.R_far (p := ⟨gb200, 7, none⟩) (Kd.R_far (p := ⟨gb200, 6, none⟩) (Kd.R_far (p := ⟨gb200, 5, none⟩) (Kd.R_far (p := ⟨gb200, 4, none⟩) (Kd.R_far (p := ⟨gb200, 3, none⟩) (Kd.R_far (p := ⟨gb200, 2, none⟩) (Kd.R_far (p := ⟨gb200, 1, none⟩) (Kd.R_far (p := ⟨gb200, 0, none⟩) (Kd.R_types HO_238006.out BK200.out (by decide)) (fun _ hk => hk.2) (.int .i64 (rd x5_1 0))) (fun _ hk => hk.2) (.int .i64 (rd x5_1 1))) (fun _ hk => hk.2) (.int .i64 (rd x5_1 2))) (fun _ hk => hk.2) (.int .i64 (rd x5_1 3))) (fun _ hk => hk.2) (.slice Ao76 x238004_2.length co76)) (fun _ hk => hk.2) (.slice Ao77 x238005_2.length co77)) (fun _ hk => hk.2) (.slice Ao45 t222.length co45)) (fun _ hk => hk.2) (.int .i64 t231)) (fun _ hk => trivial), by repeat (first | (with_reducible first | exact HB.out | apply below_alloc | apply pw_below_drewN | apply below_drew1 | refine below_set ?_ GE200.out | refine below_set ?_ GE237.out) | exact HB.out)⟩
                 ·rw [if_neg c72] at H
                  have c72b0 : (t246.toList == a0.toList) = false := beq_eq_false_iff_ne.mpr c72
                  have c72b1 : (t246.toList != a0.toList) = true := bne_iff_ne.mpr c72
                  simp only [Option.some.injEq, Prod.mk.injEq] at H
                  obtain ⟨rfl, rfl, rfl, rfl, rfl, rfl, rfl, rfl, rfl⟩ := H
                  have hnb85 := NB237_200.out
                  have hnc85 := NB200_237.out
                  have hcz86_0 : wr.cell? ⟨gb237, 0, none⟩ = some (.int .i64 (rd x5_1 0)) := (blk_cell BK237.out 0).trans rfl
                  have hcz86_1 : wr.cell? ⟨gb237, 1, none⟩ = some (.int .i64 (rd x5_1 1)) := (blk_cell BK237.out 1).trans rfl
                  have hcz86_2 : wr.cell? ⟨gb237, 2, none⟩ = some (.int .i64 (rd x5_1 2)) := (blk_cell BK237.out 2).trans rfl
                  have hcz86_3 : wr.cell? ⟨gb237, 3, none⟩ = some (.int .i64 (rd x5_1 3)) := (blk_cell BK237.out 3).trans rfl
                  have hcz86_4 : wr.cell? ⟨gb237, 4, none⟩ = some (u238004) := (blk_cell BK237.out 4).trans rfl
                  have hcz86_5 : wr.cell? ⟨gb237, 5, none⟩ = some (u238005) := (blk_cell BK237.out 5).trans rfl
                  have hcz86_6 : wr.cell? ⟨gb237, 6, none⟩ = some (.slice Ao45 t222.length co45) := (blk_cell BK237.out 6).trans rfl
                  have hcz86_7 : wr.cell? ⟨gb237, 7, none⟩ = some (.int .i64 t231) := (blk_cell BK237.out 7).trans rfl
                  have hfz86_0 := blk_frozen BK237.out 0
                  have hfz86_1 := blk_frozen BK237.out 1
                  have hfz86_2 := blk_frozen BK237.out 2
                  have hfz86_3 := blk_frozen BK237.out 3
                  have hfz86_4 := blk_frozen BK237.out 4
                  have hfz86_5 := blk_frozen BK237.out 5
                  have hfz86_6 := blk_frozen BK237.out 6
                  have hfz86_7 := blk_frozen BK237.out 7
                  obtain ⟨Ao87, co87, eo87⟩ := Kd.R_slice HO_238004.out
                  subst eo87
                  obtain ⟨Ao88, co88, eo88⟩ := Kd.R_slice HO_238005.out
                  subst eo88
                  go_wp2_with (first | ((with_reducible refine gate_callee (f := 22) rfl ?_); refine goesL_ (some 115) rfl rfl Try.func22 (by kernel_rfl) rfl #[.agg #[.int .i64 (rd x5_1 0), .int .i64 (rd x5_1 1), .int .i64 (rd x5_1 2), .int .i64 (rd x5_1 3), .slice Ao87 x238004_2.length co87, .slice Ao88 x238005_2.length co88, .slice Ao45 t222.length co45, .int .i64 t231]] rfl (by (try simp only [List.map_toArray, List.map_cons, List.map_nil]); first | done | rfl | (simp only [List.length_drop, List.length_take]; rfl)) ?_; (with_reducible refine (spec_ShowBlock.calls k2 (rd x5_1 0) (rd x5_1 1) (rd x5_1 2) (rd x5_1 3) _ _ x238004_2 _ _ x238005_2 _ _ t222 t231 t246 _ ?side1 ?side2 ?side3 ?side4 ?side5 ?side6 A71.out).mono ?_); (case side1 => repeat (first | exact (Kd.R_reads' HO_238004.out).2.2 | (with_reducible refine Kd.C_alloc ?_ _) | (with_reducible refine Kd.C_drewN ?_ _) | (with_reducible refine Kd.C_drew ?_))); (case side2 => exact (Kd.R_reads' HO_238004.out).2.1); (case side3 => repeat (first | exact (Kd.R_reads' HO_238005.out).2.2 | (with_reducible refine Kd.C_alloc ?_ _) | (with_reducible refine Kd.C_drewN ?_ _) | (with_reducible refine Kd.C_drew ?_))); (case side4 => exact (Kd.R_reads' HO_238005.out).2.1); (case side5 => repeat (first | exact (Kd.R_reads' HO_238006.out).2.2 | (with_reducible refine Kd.C_alloc ?_ _) | (with_reducible refine Kd.C_drewN ?_ _) | (with_reducible refine Kd.C_drew ?_))); (case side6 => exact (Kd.R_reads' HO_238006.out).2.1); rintro e w89 ⟨rfl, hb⟩; refine ⟨_, rfl, ?_⟩; have n0_ := Aside0.mk (Kd.R_below (by (with_reducible repeat (first | apply Kd.R_alloc | apply Kd.R_drewN | apply Kd.R_drew)); exact HO_5.out) hb); have n1_ := Aside0.mk (Kd.R_below (by (with_reducible repeat (first | apply Kd.R_alloc | apply Kd.R_drewN | apply Kd.R_drew)); exact HO_238004.out) hb); have n2_ := Aside0.mk (Kd.R_below (by (with_reducible repeat (first | apply Kd.R_alloc | apply Kd.R_drewN | apply Kd.R_drew)); exact HO_238005.out) hb); have n3_ := Aside0.mk (Kd.R_below (by (with_reducible repeat (first | apply Kd.R_alloc | apply Kd.R_drewN | apply Kd.R_drew)); exact HO_238006.out) hb); have n4_ := Aside0.mk (blk_below (g := gb200) (o := .cells #[.int .i64 x201000_1, .int .i64 x201001_1, .int .i64 x201002_1, .int .i64 x201003_1, .slice none 0 0, .slice none 0 0, .slice none 0 0, .int .i64 x201007_1] 42 (0, 0)) (by (with_reducible repeat (first | refine blk_drewN ?_ _ | refine blk_drew ?_ | refine blk_alloc ?_ _)); exact BK200.out) hb); have n5_ := Aside0.mk (blk_below (g := gb237) (o := .cells #[.int .i64 (rd x5_1 0), .int .i64 (rd x5_1 1), .int .i64 (rd x5_1 2), .int .i64 (rd x5_1 3), .slice Ao87 x238004_2.length co87, .slice Ao88 x238005_2.length co88, .slice Ao45 t222.length co45, .int .i64 t231] 42 (0, 0)) (by (with_reducible repeat (first | refine blk_drewN ?_ _ | refine blk_drew ?_ | refine blk_alloc ?_ _)); exact BK237.out) hb); have n6_ := Aside0.mk (below_step (by repeat (first | (with_reducible first | exact HB.out | apply below_alloc | apply pw_below_drewN | apply below_drew1 | refine below_set ?_ GE200.out | refine below_set ?_ GE237.out) | exact HB.out)) hb); clear HO_5; clear HO_238004; clear HO_238005; clear HO_238006; clear BK200; clear BK237; clear HB; have HO_5 := n0_; have HO_238004 := n1_; have HO_238005 := n2_; have HO_238006 := n3_; have BK200 := n4_; have BK237 := n5_; have HB := n6_; clear n0_ n1_ n2_ n3_ n4_ n5_ n6_; (try clear hb); (try clear hb2); (try clear hk); (try clear hi); have hcz90_0 : w89.cell? ⟨gb200, 0, none⟩ = some (.int .i64 x201000_1) := (blk_cell BK200.out 0).trans rfl; have hcz90_1 : w89.cell? ⟨gb200, 1, none⟩ = some (.int .i64 x201001_1) := (blk_cell BK200.out 1).trans rfl; have hcz90_2 : w89.cell? ⟨gb200, 2, none⟩ = some (.int .i64 x201002_1) := (blk_cell BK200.out 2).trans rfl; have hcz90_3 : w89.cell? ⟨gb200, 3, none⟩ = some (.int .i64 x201003_1) := (blk_cell BK200.out 3).trans rfl; have hcz90_4 : w89.cell? ⟨gb200, 4, none⟩ = some (.slice none 0 0) := (blk_cell BK200.out 4).trans rfl; have hcz90_5 : w89.cell? ⟨gb200, 5, none⟩ = some (.slice none 0 0) := (blk_cell BK200.out 5).trans rfl; have hcz90_6 : w89.cell? ⟨gb200, 6, none⟩ = some (.slice none 0 0) := (blk_cell BK200.out 6).trans rfl; have hcz90_7 : w89.cell? ⟨gb200, 7, none⟩ = some (.int .i64 x201007_1) := (blk_cell BK200.out 7).trans rfl; have hfz90_0 := blk_frozen BK200.out 0; have hfz90_1 := blk_frozen BK200.out 1; have hfz90_2 := blk_frozen BK200.out 2; have hfz90_3 := blk_frozen BK200.out 3; have hfz90_4 := blk_frozen BK200.out 4; have hfz90_5 := blk_frozen BK200.out 5; have hfz90_6 := blk_frozen BK200.out 6; have hfz90_7 := blk_frozen BK200.out 7))
                  refine bodyPost_ret (results_ct rfl _ _ gb200 42 #[.int .i64 0, .int .i64 0, .int .i64 0, .int .i64 0, .slice none 0 0, .slice none 0 0, .slice none 0 0, .int .i64 0] (0, 0) _ rfl (by (with_reducible repeat (first | refine blk_drewN ?_ _ | refine blk_drew ?_ | refine blk_alloc ?_ _)); refine blk_put (cs := #[.int .i64 0, .int .i64 0, .int .i64 0, .int .i64 0, .slice none 0 0, .slice none 0 0, .slice none 0 0, .int .i64 x201007_1]) ?_ 7 _ rfl; (with_reducible repeat (first | refine blk_drewN ?_ _ | refine blk_drew ?_ | refine blk_alloc ?_ _)); refine blk_put (cs := #[.int .i64 0, .int .i64 0, .int .i64 0, .int .i64 0, .slice none 0 0, .slice none 0 0, .slice none 0 0, .int .i64 x201007_1]) ?_ 6 _ rfl; (with_reducible repeat (first | refine blk_drewN ?_ _ | refine blk_drew ?_ | refine blk_alloc ?_ _)); refine blk_put (cs := #[.int .i64 0, .int .i64 0, .int .i64 0, .int .i64 0, .slice none 0 0, .slice none 0 0, .slice none 0 0, .int .i64 x201007_1]) ?_ 5 _ rfl; (with_reducible repeat (first | refine blk_drewN ?_ _ | refine blk_drew ?_ | refine blk_alloc ?_ _)); refine blk_put (cs := #[.int .i64 0, .int .i64 0, .int .i64 0, .int .i64 0, .slice none 0 0, .slice none 0 0, .slice none 0 0, .int .i64 x201007_1]) ?_ 4 _ rfl; (with_reducible repeat (first | refine blk_drewN ?_ _ | refine blk_drew ?_ | refine blk_alloc ?_ _)); refine blk_put (cs := #[.int .i64 0, .int .i64 0, .int .i64 0, .int .i64 x201003_1, .slice none 0 0, .slice none 0 0, .slice none 0 0, .int .i64 x201007_1]) ?_ 3 _ rfl; (with_reducible repeat (first | refine blk_drewN ?_ _ | refine blk_drew ?_ | refine blk_alloc ?_ _)); refine blk_put (cs := #[.int .i64 0, .int .i64 0, .int .i64 x201002_1, .int .i64 x201003_1, .slice none 0 0, .slice none 0 0, .slice none 0 0, .int .i64 x201007_1]) ?_ 2 _ rfl; (with_reducible repeat (first | refine blk_drewN ?_ _ | refine blk_drew ?_ | refine blk_alloc ?_ _)); refine blk_put (cs := #[.int .i64 0, .int .i64 x201001_1, .int .i64 x201002_1, .int .i64 x201003_1, .slice none 0 0, .slice none 0 0, .slice none 0 0, .int .i64 x201007_1]) ?_ 1 _ rfl; (with_reducible repeat (first | refine blk_drewN ?_ _ | refine blk_drew ?_ | refine blk_alloc ?_ _)); refine blk_put (cs := #[.int .i64 x201000_1, .int .i64 x201001_1, .int .i64 x201002_1, .int .i64 x201003_1, .slice none 0 0, .slice none 0 0, .slice none 0 0, .int .i64 x201007_1]) ?_ 0 _ rfl; (with_reducible repeat (first | refine blk_drewN ?_ _ | refine blk_drew ?_ | refine blk_alloc ?_ _)); exact BK200.out) Try.underlying42 rfl (by kernel_rfl)) rfl ?_
                  exact ⟨_, _, _, by first | rfl | (simp [errW_none, errW_some] <;> rfl) | (simp only [← hji35]; first | rfl | (simp [errW_none, errW_some] <;> rfl)) | (simp [*, errW_none, errW_some] <;> rfl), by first | exact Kd.R_nil _ _ _ _ _ | exact Kd.N_nil _ _ _ _ _ | exact Kd.V_nil _ _ _ _ _ | exact Kd.Q_nil _ _ _ _ _ | exact Kd.S_nil _ _ _ _ _, by first | exact Kd.R_nil _ _ _ _ _ | exact Kd.N_nil _ _ _ _ _ | exact Kd.V_nil _ _ _ _ _ | exact Kd.Q_nil _ _ _ _ _ | exact Kd.S_nil _ _ _ _ _, by first | exact Kd.R_nil _ _ _ _ _ | exact Kd.N_nil _ _ _ _ _ | exact Kd.V_nil _ _ _ _ _ | exact Kd.Q_nil _ _ _ _ _ | exact Kd.S_nil _ _ _ _ _, by repeat (first | (with_reducible first | exact HB.out | apply below_alloc | apply pw_below_drewN | apply below_drew1 | refine below_set ?_ GE200.out | refine below_set ?_ GE237.out) | exact HB.out)⟩
             ·rw [if_neg c42] at H
              exact absurd H (by simp)
            ·rw [if_neg c41] at H
             exact absurd H (by simp)
           ·rw [if_neg c40] at H
            exact absurd H (by simp)
          ·rw [if_neg c39] at H
           exact absurd H (by simp)
         ·rw [if_neg c37] at H
          exact absurd H (by simp)
        ·rw [if_neg c36] at H
         exact absurd H (by simp)
      ·rw [if_neg c26] at H
       exact absurd H (by simp)
     ·rw [if_neg c25] at H
      exact absurd H (by simp)
 ·rw [if_neg c2] at H
  exact absurd H (by simp)

end Go.Proofs.Ytckgkhlgnblblaa.PFnExactReadBlock
