import Derived.Test.YtokhjhkkncbjeaaDoorPFnBlocksx96
import Derived.Test.YtokhjhkkncbjeaaDoorPFnBlocksx10
import Derived.Test.YtokhjhkkncbjeaaDoorPFnBlocksx12
import Derived.Test.YtokhjhkkncbjeaaDoorPFnBlocksx14
import Derived.Test.YtokhjhkkncbjeaaDoorPFnBlocksx16
import Derived.Test.YtokhjhkkncbjeaaDoorPFnBlocksx17
import Derived.Test.YtokhjhkkncbjeaaDoorPFnBlocksx22
import Derived.Test.YtokhjhkkncbjeaaDoorPFnBlocksx26
import Derived.Test.YtokhjhkkncbjeaaDoorVFnBlocks
namespace Go.Proofs.YtokhjhkkncbjeaaDoor.PFnBlocks
open Go.RowKit Go.Proofs.YtokhjhkkncbjeaaDoorW.PrintWords Go.Proofs.YtokhjhkkncbjeaaDoorW.PrintLast Go.Proofs.YtokhjhkkncbjeaaDoorW.PrintMore
attribute [local go_sem] max2_int min2_int max_two min_two max_three min_three max_four min_four
attribute [local go_sem high] str_gtr str_leq str_geq
set_option linter.unusedVariables false
set_option linter.unusedSimpArgs false
structure In (W : World) (g : Nat) (q : Bq) : Prop where
 blk : W.heap[g]? = some (.cells #[.int .i64 q.v, .int .i64 q.p, .int .i64 q.pv, .int .i64 q.pn, .slice q.A5 q.bys.length q.c5, .slice q.A6 q.ts.length q.c6, .slice q.Am q.ms.length q.cm, .int .i64 q.b] 29 (0, 0))
 ok : q.ok W
theorem In.below {W W1 : World} {g : Nat} {q : Bq} (h : In W g q) (hb : Below W.heap.size W W1) : In W1 g q := ⟨blk_below h.blk hb, h.ok.below hb⟩
theorem In.new {W : World} {q : Bq} (h : q.ok W) : In (W.alloc (.cells #[.int .i64 q.v, .int .i64 q.p, .int .i64 q.pv, .int .i64 q.pn, .slice q.A5 q.bys.length q.c5, .slice q.A6 q.ts.length q.c6, .slice q.Am q.ms.length q.cm, .int .i64 q.b] 29)) W.heap.size q := ⟨heap_alloc_new W _, h.below (below_alloc (Below.refl _ _) _)⟩
theorem In.at_ {W : World} {g : Nat} {q : Bq} (h : In W g q) (j : Nat) : W.cell? ⟨g, j, none⟩ = (#[.int .i64 q.v, .int .i64 q.p, .int .i64 q.pv, .int .i64 q.pn, .slice q.A5 q.bys.length q.c5, .slice q.A6 q.ts.length q.c6, .slice q.Am q.ms.length q.cm, .int .i64 q.b])[j]? := blk_cell h.blk j
/-- The parameters of the law's pure part. -/
def P1 : Prop := ∀ q : Bq, q.small → ∃ (k : Nat) (s : ByteArray) (m : Int), impl_ShowBlock.f k q.v q.p q.pv q.pn q.bys q.ts q.ms q.b = some s ∧ spec_ShowBlock.f k q.v q.p q.pv q.pn q.bys q.ts q.ms q.b = some s ∧ s.size ≤ 1000000000 ∧ impl_Name.f k q.v q.p q.pv q.pn q.bys q.ts q.ms q.b = some m ∧ spec_Name.f k q.v q.p q.pv q.pn q.bys q.ts q.ms q.b = some m ∧ (s.toList.isEmpty = false → impl_ReadBlock.f k s = some (q.v, q.p, q.pv, q.pn, q.bys, q.ts, q.ms, q.b, true))
def P2 : Prop := ∀ t : ByteArray, t.size ≤ 1000000003 → ∃ (k : Nat) (v p pv pn : Int) (bys ts : List Int) (ms : List ByteArray) (b : Int) (is : Bool), impl_ReadBlock.f k t = some (v, p, pv, pn, bys, ts, ms, b, is) ∧ spec_ReadBlock.f k t = some (v, p, pv, pn, bys, ts, ms, b, is) ∧ (bys.length ≤ 1000 ∧ ts.length ≤ 1000 ∧ ms.length ≤ 1000) ∧ (is = false → v = 0 ∧ p = 0 ∧ pv = 0 ∧ pn = 0 ∧ bys = [] ∧ ts = [] ∧ ms = [] ∧ b = 0) ∧ (is = true → impl_ShowBlock.f k v p pv pn bys ts ms b = some t)
def P3 : Prop := ∀ (q : Bq) (n : Int), q.small → -1 ≤ n → n ≤ 8 → ∃ (k : Nat) (o : Bool), impl_BlockOk.f k q.v q.p q.pv q.pn q.bys q.ts q.ms q.b n = some o ∧ spec_BlockOk.f k q.v q.p q.pv q.pn q.bys q.ts q.ms q.b n = some o ∧ (o = true → ∃ s, impl_ShowBlock.f k q.v q.p q.pv q.pn q.bys q.ts q.ms q.b = some s ∧ s.toList.isEmpty = false ∧ q.p = q.pn ∧ q.pv < q.v)
/-! blocks are like themselves -/
theorem ints_l0 (l : List Int) (hl : l.length ≤ 1000) : ∀ (d i : Nat), i + d = l.length → Ev (fun k => laws_likeInts.l0 k l l (i : Int)) true
 | 0, i, hi => by
  refine Ev.succ ?_
  simp only [laws_likeInts.l0]
  exact Ev.neg (by omega) (Ev.now _)
 | d + 1, i, hi => by
  have ih := ints_l0 l hl d (i + 1) (by omega)
  refine Ev.succ ?_
  simp only [laws_likeInts.l0]
  rw [w64 (x := (i : Int) + 1) (by omega) (by omega), cast_succ]
  exact Ev.pos (by omega) (Ev.pos (by omega) (Ev.pos (by omega) (Ev.pos (by simp) ih)))
theorem ints_ev (l : List Int) (hl : l.length ≤ 1000) : ∃ k, laws_likeInts.f k l l = some true := by
 obtain ⟨K, h⟩ := ints_l0 l hl l.length 0 (by omega)
 exact ⟨K, (by unfold laws_likeInts.f; rw [if_pos rfl]; exact h K (Nat.le_refl _))⟩
theorem strs_l0 (l : List ByteArray) (hl : l.length ≤ 1000) : ∀ (d i : Nat), i + d = l.length → Ev (fun k => laws_likeTexts.l0 k l l (i : Int)) true
 | 0, i, hi => by
  refine Ev.succ ?_
  simp only [laws_likeTexts.l0]
  exact Ev.neg (by omega) (Ev.now _)
 | d + 1, i, hi => by
  have ih := strs_l0 l hl d (i + 1) (by omega)
  refine Ev.succ ?_
  simp only [laws_likeTexts.l0]
  rw [w64 (x := (i : Int) + 1) (by omega) (by omega), cast_succ]
  exact Ev.pos (by omega) (Ev.pos (by omega) (Ev.pos (by omega) (Ev.pos (by simp) ih)))
theorem strs_ev (l : List ByteArray) (hl : l.length ≤ 1000) : ∃ k, laws_likeTexts.f k l l = some true := by
 obtain ⟨K, h⟩ := strs_l0 l hl l.length 0 (by omega)
 exact ⟨K, (by unfold laws_likeTexts.f; rw [if_pos rfl]; exact h K (Nat.le_refl _))⟩
theorem dr_b {w w' : World} (h : Drawn0 w w') : Below w.heap.size w w' := by
 obtain ⟨m, hm⟩ := h
 rw [hm]
 exact pw_below_drewN (Below.refl _ _) m
structure Same (x y : Bq) : Prop where
 v : x.v = y.v
 p : x.p = y.p
 pv : x.pv = y.pv
 pn : x.pn = y.pn
 b : x.b = y.b
 bys : x.bys = y.bys
 ts : x.ts = y.ts
 ms : x.ms = y.ms
 n5 : x.bys.length ≤ 1000
 n6 : x.ts.length ≤ 1000
 nm : x.ms.length ≤ 1000
set_option maxHeartbeats 4000000 in
set_option maxRecDepth 100000 in
theorem like_p (x y : Bq) (w : World) (hs : Same x y) (hx : x.ok w) (hy : y.ok w) : Calls Tryd.prog 30 #[.agg #[.int .i64 x.pv, .int .i64 x.pn, .slice x.A5 x.bys.length x.c5, .slice x.A6 x.ts.length x.c6], .agg #[.int .i64 y.pv, .int .i64 y.pn, .slice y.A5 y.bys.length y.c5, .slice y.A6 y.ts.length y.c6]] w fun e w' => e = .returned (.bool true) ∧ Below w.heap.size w w' := by
 have eg54 : ∀ args w, (callFunc 54 args).run Tryd.prog w = .ok (.enter 54 args) w := enters_ Tryd.func54 (by kernel_rfl) rfl
 have hu26 := Tryd.underlying26
 obtain ⟨v, p, pv, pn, b, bys, ts, ms, A5, A6, Am, c5, c6, cm⟩ := x
 obtain ⟨v_, p_, pv_, pn_, b_, bys_, ts_, ms_, B5, B6, Bm, d5, d6, dm⟩ := y
 obtain ⟨h1, h2, h3, h4, h5, h6, h7, h8, l5, l6, lm⟩ := hs
 dsimp only at h1 h2 h3 h4 h5 h6 h7 h8 l5 l6 lm
 subst h1 h2 h3 h4 h5 h6 h7 h8
 have HX := Aside0.mk hx
 have HY := Aside0.mk hy
 clear hx hy
 dsimp only
 go_enter Tryd.func30, Tryd.ntmps30
 go_wp2_with (first | ((with_reducible refine gate_dst (N := 2) rfl ?_); refine box_event ?hg (N := 2) ?hd (cs := #[.int .i64 pv, .int .i64 pn, .slice A5 bys.length c5, .slice A6 ts.length c6]) (t := 26) ?hr ?_; (case hd => rfl); (case hg => rfl); (case hr => first | (go_simp; done) | (go_simp; rfl)); intro gb2 hg w2 hbox hb; have BK2 := Aside0.mk hbox; have HX := Aside0.mk (HX.out.below hb); have HY := Aside0.mk (HY.out.below hb); have HB := Aside0.mk hb; clear hg hbox hb) | ((with_reducible refine gate_dst (N := 3) rfl ?_); refine box_event ?hg (N := 3) ?hd (cs := #[.int .i64 pv, .int .i64 pn, .slice B5 bys.length d5, .slice B6 ts.length d6]) (t := 26) ?hr ?_; (case hd => rfl); (case hg => rfl); (case hr => first | (go_simp; done) | (go_simp; rfl)); intro gb3 hg w3 hbox hb; have HX := Aside0.mk (HX.out.below hb); have HY := Aside0.mk (HY.out.below hb); have HB := Aside0.mk (below_weaken HB.out HB.out.size hb); have BK3 := Aside0.mk hbox; have BK2 := Aside0.mk (blk_below BK2.out hb); clear hg hbox hb; have hc2_0 := (blk_cell BK2.out 0).trans rfl; have hc2_1 := (blk_cell BK2.out 1).trans rfl; have hc2_2 := (blk_cell BK2.out 2).trans rfl; have hc2_3 := (blk_cell BK2.out 3).trans rfl; have hc3_0 := (blk_cell BK3.out 0).trans rfl; have hc3_1 := (blk_cell BK3.out 1).trans rfl; have hc3_2 := (blk_cell BK3.out 2).trans rfl; have hc3_3 := (blk_cell BK3.out 3).trans rfl))
 obtain ⟨k1, e1⟩ := ints_ev bys l5
 obtain ⟨k2, e2⟩ := ints_ev ts l6
 refine (laws_likeInts.calls k1 A5 c5 bys B5 d5 bys true _ HX.out.h5 HX.out.l5 HY.out.h5 HY.out.l5 e1).mono ?_
 rintro e w4 ⟨rfl, nd⟩
 have hb := dr_b nd
 clear nd
 clear hc2_0 hc2_1 hc2_2 hc2_3 hc3_0 hc3_1 hc3_2 hc3_3
 have n1_ := Aside0.mk (HX.out.below hb)
 clear HX
 have HX := n1_
 clear n1_
 have n1_ := Aside0.mk (HY.out.below hb)
 clear HY
 have HY := n1_
 clear n1_
 have n1_ := Aside0.mk (below_weaken HB.out HB.out.size hb)
 clear HB
 have HB := n1_
 clear n1_
 have n1_ := Aside0.mk (blk_below BK2.out hb)
 clear BK2
 have BK2 := n1_
 clear n1_
 have n1_ := Aside0.mk (blk_below BK3.out hb)
 clear BK3
 have BK3 := n1_
 clear n1_
 clear hb
 have hc2_0 := (blk_cell BK2.out 0).trans rfl
 have hc2_1 := (blk_cell BK2.out 1).trans rfl
 have hc2_2 := (blk_cell BK2.out 2).trans rfl
 have hc2_3 := (blk_cell BK2.out 3).trans rfl
 have hc3_0 := (blk_cell BK3.out 0).trans rfl
 have hc3_1 := (blk_cell BK3.out 1).trans rfl
 have hc3_2 := (blk_cell BK3.out 2).trans rfl
 have hc3_3 := (blk_cell BK3.out 3).trans rfl
 go_wp2_with fail
 refine (laws_likeInts.calls k2 A6 c6 ts B6 d6 ts true _ HX.out.h6 HX.out.l6 HY.out.h6 HY.out.l6 e2).mono ?_
 rintro e w5 ⟨rfl, nd⟩
 have hb := dr_b nd
 clear nd
 clear hc2_0 hc2_1 hc2_2 hc2_3 hc3_0 hc3_1 hc3_2 hc3_3
 have n1_ := Aside0.mk (HX.out.below hb)
 clear HX
 have HX := n1_
 clear n1_
 have n1_ := Aside0.mk (HY.out.below hb)
 clear HY
 have HY := n1_
 clear n1_
 have n1_ := Aside0.mk (below_weaken HB.out HB.out.size hb)
 clear HB
 have HB := n1_
 clear n1_
 have n1_ := Aside0.mk (blk_below BK2.out hb)
 clear BK2
 have BK2 := n1_
 clear n1_
 have n1_ := Aside0.mk (blk_below BK3.out hb)
 clear BK3
 have BK3 := n1_
 clear n1_
 clear hb
 have hc2_0 := (blk_cell BK2.out 0).trans rfl
 have hc2_1 := (blk_cell BK2.out 1).trans rfl
 have hc2_2 := (blk_cell BK2.out 2).trans rfl
 have hc2_3 := (blk_cell BK2.out 3).trans rfl
 have hc3_0 := (blk_cell BK3.out 0).trans rfl
 have hc3_1 := (blk_cell BK3.out 1).trans rfl
 have hc3_2 := (blk_cell BK3.out 2).trans rfl
 have hc3_3 := (blk_cell BK3.out 3).trans rfl
 go_wp2
 go_ret
 exact ⟨rfl, HB.out⟩
set_option maxHeartbeats 4000000 in
set_option maxRecDepth 100000 in
theorem like_c (x y : Bq) (w : World) (hs : Same x y) (hx : x.ok w) (hy : y.ok w) : Calls Tryd.prog 11 #[.agg #[.int .i64 x.v, .int .i64 x.p, .int .i64 x.pv, .int .i64 x.pn, .slice x.A5 x.bys.length x.c5, .slice x.A6 x.ts.length x.c6, .slice x.Am x.ms.length x.cm, .int .i64 x.b], .agg #[.int .i64 y.v, .int .i64 y.p, .int .i64 y.pv, .int .i64 y.pn, .slice y.A5 y.bys.length y.c5, .slice y.A6 y.ts.length y.c6, .slice y.Am y.ms.length y.cm, .int .i64 y.b]] w fun e w' => e = .returned (.bool true) ∧ Below w.heap.size w w' := by
 have eg30 : ∀ args w, (callFunc 30 args).run Tryd.prog w = .ok (.enter 30 args) w := enters_ Tryd.func30 (by kernel_rfl) rfl
 have eg31 : ∀ args w, (callFunc 31 args).run Tryd.prog w = .ok (.enter 31 args) w := enters_ Tryd.func31 (by kernel_rfl) rfl
 have hu29 := Tryd.underlying29
 obtain ⟨v, p, pv, pn, b, bys, ts, ms, A5, A6, Am, c5, c6, cm⟩ := x
 obtain ⟨v_, p_, pv_, pn_, b_, bys_, ts_, ms_, B5, B6, Bm, d5, d6, dm⟩ := y
 obtain ⟨h1, h2, h3, h4, h5, h6, h7, h8, l5, l6, lm⟩ := hs
 dsimp only at h1 h2 h3 h4 h5 h6 h7 h8 l5 l6 lm
 subst h1 h2 h3 h4 h5 h6 h7 h8
 have HX := Aside0.mk hx
 have HY := Aside0.mk hy
 clear hx hy
 dsimp only
 go_enter Tryd.func11, Tryd.ntmps11
 go_wp2_with (first | ((with_reducible refine gate_dst (N := 2) rfl ?_); refine box_event ?hg (N := 2) ?hd (cs := #[.int .i64 v, .int .i64 p, .int .i64 pv, .int .i64 pn, .slice A5 bys.length c5, .slice A6 ts.length c6, .slice Am ms.length cm, .int .i64 b]) (t := 29) ?hr ?_; (case hd => rfl); (case hg => rfl); (case hr => first | (go_simp; done) | (go_simp; rfl)); intro gb2 hg w2 hbox hb; have BK2 := Aside0.mk hbox; have HX := Aside0.mk (HX.out.below hb); have HY := Aside0.mk (HY.out.below hb); have HB := Aside0.mk hb; clear hg hbox hb) | ((with_reducible refine gate_dst (N := 3) rfl ?_); refine box_event ?hg (N := 3) ?hd (cs := #[.int .i64 v, .int .i64 p, .int .i64 pv, .int .i64 pn, .slice B5 bys.length d5, .slice B6 ts.length d6, .slice Bm ms.length dm, .int .i64 b]) (t := 29) ?hr ?_; (case hd => rfl); (case hg => rfl); (case hr => first | (go_simp; done) | (go_simp; rfl)); intro gb3 hg w3 hbox hb; have HX := Aside0.mk (HX.out.below hb); have HY := Aside0.mk (HY.out.below hb); have HB := Aside0.mk (below_weaken HB.out HB.out.size hb); have BK3 := Aside0.mk hbox; have BK2 := Aside0.mk (blk_below BK2.out hb); clear hg hbox hb; have hc2_0 := (blk_cell BK2.out 0).trans rfl; have hc2_1 := (blk_cell BK2.out 1).trans rfl; have hc2_2 := (blk_cell BK2.out 2).trans rfl; have hc2_3 := (blk_cell BK2.out 3).trans rfl; have hc2_4 := (blk_cell BK2.out 4).trans rfl; have hc2_5 := (blk_cell BK2.out 5).trans rfl; have hc2_6 := (blk_cell BK2.out 6).trans rfl; have hc2_7 := (blk_cell BK2.out 7).trans rfl; have hc3_0 := (blk_cell BK3.out 0).trans rfl; have hc3_1 := (blk_cell BK3.out 1).trans rfl; have hc3_2 := (blk_cell BK3.out 2).trans rfl; have hc3_3 := (blk_cell BK3.out 3).trans rfl; have hc3_4 := (blk_cell BK3.out 4).trans rfl; have hc3_5 := (blk_cell BK3.out 5).trans rfl; have hc3_6 := (blk_cell BK3.out 6).trans rfl; have hc3_7 := (blk_cell BK3.out 7).trans rfl))
 obtain ⟨k1, e1⟩ := strs_ev ms lm
 refine (like_p ⟨v, p, pv, pn, b, bys, ts, ms, A5, A6, Am, c5, c6, cm⟩ ⟨v, p, pv, pn, b, bys, ts, ms, B5, B6, Bm, d5, d6, dm⟩ _ ⟨rfl, rfl, rfl, rfl, rfl, rfl, rfl, rfl, l5, l6, lm⟩ HX.out HY.out).mono ?_
 rintro e w4 ⟨rfl, hb⟩
 clear hc2_0 hc2_1 hc2_2 hc2_3 hc2_4 hc2_5 hc2_6 hc2_7 hc3_0 hc3_1 hc3_2 hc3_3 hc3_4 hc3_5 hc3_6 hc3_7
 have n1_ := Aside0.mk (HX.out.below hb)
 clear HX
 have HX := n1_
 clear n1_
 have n1_ := Aside0.mk (HY.out.below hb)
 clear HY
 have HY := n1_
 clear n1_
 have n1_ := Aside0.mk (below_weaken HB.out HB.out.size hb)
 clear HB
 have HB := n1_
 clear n1_
 have n1_ := Aside0.mk (blk_below BK2.out hb)
 clear BK2
 have BK2 := n1_
 clear n1_
 have n1_ := Aside0.mk (blk_below BK3.out hb)
 clear BK3
 have BK3 := n1_
 clear n1_
 clear hb
 have hc2_0 := (blk_cell BK2.out 0).trans rfl
 have hc2_1 := (blk_cell BK2.out 1).trans rfl
 have hc2_2 := (blk_cell BK2.out 2).trans rfl
 have hc2_3 := (blk_cell BK2.out 3).trans rfl
 have hc2_4 := (blk_cell BK2.out 4).trans rfl
 have hc2_5 := (blk_cell BK2.out 5).trans rfl
 have hc2_6 := (blk_cell BK2.out 6).trans rfl
 have hc2_7 := (blk_cell BK2.out 7).trans rfl
 have hc3_0 := (blk_cell BK3.out 0).trans rfl
 have hc3_1 := (blk_cell BK3.out 1).trans rfl
 have hc3_2 := (blk_cell BK3.out 2).trans rfl
 have hc3_3 := (blk_cell BK3.out 3).trans rfl
 have hc3_4 := (blk_cell BK3.out 4).trans rfl
 have hc3_5 := (blk_cell BK3.out 5).trans rfl
 have hc3_6 := (blk_cell BK3.out 6).trans rfl
 have hc3_7 := (blk_cell BK3.out 7).trans rfl
 go_wp2_with fail
 refine (laws_likeTexts.calls k1 Am cm ms Bm dm ms true _ HX.out.hm HX.out.lm HY.out.hm HY.out.lm e1).mono ?_
 rintro e w5 ⟨rfl, nd⟩
 have hb := dr_b nd
 clear nd
 clear hc2_0 hc2_1 hc2_2 hc2_3 hc2_4 hc2_5 hc2_6 hc2_7 hc3_0 hc3_1 hc3_2 hc3_3 hc3_4 hc3_5 hc3_6 hc3_7
 have n1_ := Aside0.mk (HX.out.below hb)
 clear HX
 have HX := n1_
 clear n1_
 have n1_ := Aside0.mk (HY.out.below hb)
 clear HY
 have HY := n1_
 clear n1_
 have n1_ := Aside0.mk (below_weaken HB.out HB.out.size hb)
 clear HB
 have HB := n1_
 clear n1_
 have n1_ := Aside0.mk (blk_below BK2.out hb)
 clear BK2
 have BK2 := n1_
 clear n1_
 have n1_ := Aside0.mk (blk_below BK3.out hb)
 clear BK3
 have BK3 := n1_
 clear n1_
 clear hb
 have hc2_0 := (blk_cell BK2.out 0).trans rfl
 have hc2_1 := (blk_cell BK2.out 1).trans rfl
 have hc2_2 := (blk_cell BK2.out 2).trans rfl
 have hc2_3 := (blk_cell BK2.out 3).trans rfl
 have hc2_4 := (blk_cell BK2.out 4).trans rfl
 have hc2_5 := (blk_cell BK2.out 5).trans rfl
 have hc2_6 := (blk_cell BK2.out 6).trans rfl
 have hc2_7 := (blk_cell BK2.out 7).trans rfl
 have hc3_0 := (blk_cell BK3.out 0).trans rfl
 have hc3_1 := (blk_cell BK3.out 1).trans rfl
 have hc3_2 := (blk_cell BK3.out 2).trans rfl
 have hc3_3 := (blk_cell BK3.out 3).trans rfl
 have hc3_4 := (blk_cell BK3.out 4).trans rfl
 have hc3_5 := (blk_cell BK3.out 5).trans rfl
 have hc3_6 := (blk_cell BK3.out 6).trans rfl
 have hc3_7 := (blk_cell BK3.out 7).trans rfl
 go_wp2
 go_ret
 exact ⟨rfl, HB.out⟩
set_option maxHeartbeats 8000000 in
set_option maxRecDepth 100000 in
theorem laws_FnBlocks.calls (A0 : Option Addr) (c0 : Nat) (l0 : List Int) (w : World) (hr0 : Kd.C (Kd.int .u8) w A0 l0.length l0) (hc0 : l0.length ≤ c0) (hT : TabOk w) (hP1 : P1) (hP2 : P2) (hP3 : P3) :
  Calls Tryd.prog 3 #[.slice A0 l0.length c0] w fun e w' => e = .returned (.bool true) ∧ Below w.heap.size w w' := by
 have eg4 : ∀ args w, (callFunc 4 args).run Tryd.prog w = .ok (.enter 4 args) w := enters_ Tryd.func4 (by kernel_rfl) rfl
 have eg5 : ∀ args w, (callFunc 5 args).run Tryd.prog w = .ok (.enter 5 args) w := enters_ Tryd.func5 (by kernel_rfl) rfl
 have eg6 : ∀ args w, (callFunc 6 args).run Tryd.prog w = .ok (.enter 6 args) w := enters_ Tryd.func6 (by kernel_rfl) rfl
 have eg7 : ∀ args w, (callFunc 7 args).run Tryd.prog w = .ok (.enter 7 args) w := enters_ Tryd.func7 (by kernel_rfl) rfl
 have eg8 : ∀ args w, (callFunc 8 args).run Tryd.prog w = .ok (.enter 8 args) w := enters_ Tryd.func8 (by kernel_rfl) rfl
 have eg9 : ∀ args w, (callFunc 9 args).run Tryd.prog w = .ok (.enter 9 args) w := enters_ Tryd.func9 (by kernel_rfl) rfl
 have eg10 : ∀ args w, (callFunc 10 args).run Tryd.prog w = .ok (.enter 10 args) w := enters_ Tryd.func10 (by kernel_rfl) rfl
 have eg11 : ∀ args w, (callFunc 11 args).run Tryd.prog w = .ok (.enter 11 args) w := enters_ Tryd.func11 (by kernel_rfl) rfl
 have eg12 : ∀ args w, (callFunc 12 args).run Tryd.prog w = .ok (.enter 12 args) w := enters_ Tryd.func12 (by kernel_rfl) rfl
 have eg13 : ∀ args w, (callFunc 13 args).run Tryd.prog w = .ok (.enter 13 args) w := enters_ Tryd.func13 (by kernel_rfl) rfl
 have eg14 : ∀ args w, (callFunc 14 args).run Tryd.prog w = .ok (.enter 14 args) w := enters_ Tryd.func14 (by kernel_rfl) rfl
 have eg15 : ∀ args w, (callFunc 15 args).run Tryd.prog w = .ok (.enter 15 args) w := enters_ Tryd.func15 (by kernel_rfl) rfl
 have eg16 : ∀ args w, (callFunc 16 args).run Tryd.prog w = .ok (.enter 16 args) w := enters_ Tryd.func16 (by kernel_rfl) rfl
 have hu29 := Tryd.underlying29
 have HR := Aside0.mk hr0
 have HC := Aside0.mk hc0
 have Q1 := Aside0.mk hP1
 have Q2 := Aside0.mk hP2
 have Q3 := Aside0.mk hP3
 have HT := Aside0.mk hT
 clear hr0 hc0 hP1 hP2 hP3 hT
 go_enter Tryd.func3, Tryd.ntmps3
 go_wp2_with fail
 refine (laws_big.calls A0 c0 l0 _ w HR.out HC.out rfl).mono ?_
 rintro e w1 ⟨rfl, ⟨m_, hm_⟩⟩
 have hb : Below w.heap.size w w1 := by rw [hm_]; exact pw_below_drewN (Below.refl _ _) m_
 have HB := Aside0.mk hb
 have n1_ := Aside0.mk (tab_at HT.out hb)
 clear HT
 have HT := n1_
 clear n1_
 have n1_ := Aside0.mk (Kd.C_below HR.out hb)
 clear HR
 have HR := n1_
 clear n1_
 clear hb hm_
 by_cases c1 : (l0.length : Int) > 4096
 ·have c1b : decide ((l0.length : Int) > 4096) = true := decide_eq_true c1
  clear c1
  go_wp2
  go_ret
  exact ⟨rfl, HB.out⟩
 ·have c1b : decide ((l0.length : Int) > 4096) = false := decide_eq_false c1
  have HL := Aside0.mk (show (l0.length : Int) < 9223372036854775807 from (by omega))
  clear c1
  go_wp2_with fail
  clear c1b
  refine (DrawShowBlock_c A0 c0 l0 w1 HL.out HR.out HC.out).mono ?_
  rintro e w2 ⟨q, rfl, hs, hk, hb⟩
  have Sq := Aside0.mk hs
  have Kq := Aside0.mk hk
  have n1_ := Aside0.mk (below_weaken HB.out HB.out.size hb)
  clear HB
  have HB := n1_
  clear n1_
  have n1_ := Aside0.mk (tab_at HT.out hb)
  clear HT
  have HT := n1_
  clear n1_
  have n1_ := Aside0.mk (Kd.C_below HR.out hb)
  clear HR
  have HR := n1_
  clear n1_
  clear hs hk hb
  go_wp2_with fail
  have hA_ := below_alloc (Below.refl w2.heap.size w2) (.cells #[.int .i64 q.v, .int .i64 q.p, .int .i64 q.pv, .int .i64 q.pn, .slice q.A5 q.bys.length q.c5, .slice q.A6 q.ts.length q.c6, .slice q.Am q.ms.length q.cm, .int .i64 q.b] 29)
  have X3 := Aside0.mk (In.new Kq.out)
  clear Kq
  have n1_ := Aside0.mk (below_weaken HB.out HB.out.size hA_)
  clear HB
  have HB := n1_
  clear n1_
  have n1_ := Aside0.mk (tab_at HT.out hA_)
  clear HT
  have HT := n1_
  clear n1_
  have n1_ := Aside0.mk (Kd.C_below HR.out hA_); clear HR; have HR := n1_; clear n1_; clear hA_
  generalize (w2.alloc (.cells #[.int .i64 q.v, .int .i64 q.p, .int .i64 q.pv, .int .i64 q.pn, .slice q.A5 q.bys.length q.c5, .slice q.A6 q.ts.length q.c6, .slice q.Am q.ms.length q.cm, .int .i64 q.b] 29)) = w3 at HB HT HR X3 ⊢
  generalize w2.heap.size = gq at X3 ⊢
  obtain ⟨k1, s, m, e1, e2, es, e3, e4, e6⟩ := Q1.out q Sq.out
  have E1 := Aside0.mk e1
  have E2 := Aside0.mk e2
  have E3 := Aside0.mk e3
  have E4 := Aside0.mk e4
  have E6 := Aside0.mk e6
  clear e1 e2 es e3 e4 e6
  refine (impl_ShowBlock.calls k1 q.v q.p q.pv q.pn q.A5 q.c5 q.bys q.A6 q.c6 q.ts q.Am q.cm q.ms q.b s w3 X3.out.ok.h5 X3.out.ok.l5 X3.out.ok.h6 X3.out.ok.l6 X3.out.ok.hm X3.out.ok.lm E1.out).mono ?_
  rintro e w4 ⟨rfl, hb⟩
  have n1_ := Aside0.mk (below_weaken HB.out HB.out.size hb)
  clear HB
  have HB := n1_
  clear n1_
  have n1_ := Aside0.mk (tab_at HT.out hb)
  clear HT
  have HT := n1_
  clear n1_
  have n1_ := Aside0.mk (X3.out.below hb)
  clear X3
  have X3 := n1_
  clear n1_
  have n1_ := Aside0.mk (Kd.C_below HR.out hb)
  clear HR
  have HR := n1_
  clear n1_
  clear hb
  go_wp2_with fail
  refine (DrawReadBlock_c A0 c0 l0 w4 HL.out HR.out HC.out (fun q_ h_ => let ⟨k, s, m, e1, e2, es, _⟩ := Q1.out q_ h_; ⟨k, s, e2, es⟩)).mono ?_
  rintro e w5 ⟨t, rfl, ht, hb⟩
  obtain ⟨k2, v6, p6, pv6, pn6, b6, t6, m6, y6, is, f1, f2, f3, f4, f5⟩ := Q2.out t ht
  have F1 := Aside0.mk f1
  have F2 := Aside0.mk f2
  have F3 := Aside0.mk f3
  have F4 := Aside0.mk f4
  have F5 := Aside0.mk f5
  have n1_ := Aside0.mk (below_weaken HB.out HB.out.size hb)
  clear HB
  have HB := n1_
  clear n1_
  have n1_ := Aside0.mk (tab_at HT.out hb)
  clear HT
  have HT := n1_
  clear n1_
  have n1_ := Aside0.mk (X3.out.below hb)
  clear X3
  have X3 := n1_
  clear n1_
  have n1_ := Aside0.mk (Kd.C_below HR.out hb)
  clear HR
  have HR := n1_
  clear n1_
  clear hb ht f1 f2 f3 f4 f5 Q2
  go_wp2_with fail
  refine (impl_ReadBlock.calls k2 t v6 p6 pv6 pn6 b6 t6 m6 y6 is w5 F1.out).mono ?_
  rintro e w6 ⟨V4, V5, V6, rfl, h4, h5, h6, hb⟩
  obtain ⟨A4, c4, rfl⟩ := Kd.R_slice h4
  obtain ⟨A5, c5, rfl⟩ := Kd.R_slice h5
  obtain ⟨A6, c6, rfl⟩ := Kd.R_slice h6
  obtain ⟨x, hx, Kx⟩ : ∃ x : Bq, x = ⟨v6, p6, pv6, pn6, y6, b6, t6, m6, A4, A5, A6, c4, c5, c6⟩ ∧ Aside0 (x.ok w6) := ⟨_, rfl, ⟨⟨(Kd.R_reads' h4).2.1, (Kd.R_reads' h5).2.1, (Kd.R_reads' h6).2.1, (Kd.R_reads' h4).2.2, (Kd.R_reads' h5).2.2, (Kd.R_reads' h6).2.2⟩⟩⟩
  have n1_ := Aside0.mk (below_weaken HB.out HB.out.size hb)
  clear HB
  have HB := n1_
  clear n1_
  have n1_ := Aside0.mk (tab_at HT.out hb)
  clear HT
  have HT := n1_
  clear n1_
  have n1_ := Aside0.mk (X3.out.below hb)
  clear X3
  have X3 := n1_
  clear n1_
  have n1_ := Aside0.mk (Kd.C_below HR.out hb)
  clear HR
  have HR := n1_
  clear n1_
  clear h4 h5 h6 hb
  obtain rfl : v6 = x.v := by rw [hx]
  obtain rfl : p6 = x.p := by rw [hx]
  obtain rfl : pv6 = x.pv := by rw [hx]
  obtain rfl : pn6 = x.pn := by rw [hx]
  obtain rfl : y6 = x.b := by rw [hx]
  obtain rfl : b6 = x.bys := by rw [hx]
  obtain rfl : t6 = x.ts := by rw [hx]
  obtain rfl : m6 = x.ms := by rw [hx]
  obtain rfl : A4 = x.A5 := by rw [hx]
  obtain rfl : A5 = x.A6 := by rw [hx]
  obtain rfl : A6 = x.Am := by rw [hx]
  obtain rfl : c4 = x.c5 := by rw [hx]
  obtain rfl : c5 = x.c6 := by rw [hx]
  obtain rfl : c6 = x.cm := by rw [hx]
  clear hx
  go_wp2_with fail
  have hA_ := below_alloc (Below.refl w6.heap.size w6) (.cells #[.int .i64 x.v, .int .i64 x.p, .int .i64 x.pv, .int .i64 x.pn, .slice x.A5 x.bys.length x.c5, .slice x.A6 x.ts.length x.c6, .slice x.Am x.ms.length x.cm, .int .i64 x.b] 29)
  have X6 := Aside0.mk (In.new Kx.out)
  clear Kx
  have n1_ := Aside0.mk (below_weaken HB.out HB.out.size hA_)
  clear HB
  have HB := n1_
  clear n1_
  have n1_ := Aside0.mk (tab_at HT.out hA_)
  clear HT
  have HT := n1_
  clear n1_
  have n1_ := Aside0.mk (X3.out.below hA_)
  clear X3
  have X3 := n1_
  clear n1_
  have n1_ := Aside0.mk (Kd.C_below HR.out hA_); clear HR; have HR := n1_; clear n1_; clear hA_
  generalize (w6.alloc (.cells #[.int .i64 x.v, .int .i64 x.p, .int .i64 x.pv, .int .i64 x.pn, .slice x.A5 x.bys.length x.c5, .slice x.A6 x.ts.length x.c6, .slice x.Am x.ms.length x.cm, .int .i64 x.b] 29)) = w7 at HB HT HR X3 X6 ⊢
  generalize w6.heap.size = gx at X6 ⊢
  refine (DrawBlockOk_c A0 c0 l0 w7 HL.out HR.out HC.out).mono ?_
  rintro e w8 ⟨c, n, rfl, hs, n0, n1, hk, hb⟩
  obtain ⟨k3, o, g1, g2, g3⟩ := Q3.out c n hs n0 n1
  have G1 := Aside0.mk g1
  have G2 := Aside0.mk g2
  have G3 := Aside0.mk g3
  have Kc := Aside0.mk hk
  have n1_ := Aside0.mk (below_weaken HB.out HB.out.size hb)
  clear HB
  have HB := n1_
  clear n1_
  have n1_ := Aside0.mk (tab_at HT.out hb)
  clear HT
  have HT := n1_
  clear n1_
  have n1_ := Aside0.mk (X3.out.below hb)
  clear X3
  have X3 := n1_
  clear n1_
  have n1_ := Aside0.mk (X6.out.below hb)
  clear X6
  have X6 := n1_
  clear n1_
  clear hb hs n0 n1 hk g1 g2 g3 HR HC HL Q1 Q3
  go_wp2_with fail
  have hA_ := below_alloc (Below.refl w8.heap.size w8) (.cells #[.int .i64 c.v, .int .i64 c.p, .int .i64 c.pv, .int .i64 c.pn, .slice c.A5 c.bys.length c.c5, .slice c.A6 c.ts.length c.c6, .slice c.Am c.ms.length c.cm, .int .i64 c.b] 29)
  have X8 := Aside0.mk (In.new Kc.out)
  clear Kc
  have n1_ := Aside0.mk (below_weaken HB.out HB.out.size hA_)
  clear HB
  have HB := n1_
  clear n1_
  have n1_ := Aside0.mk (tab_at HT.out hA_)
  clear HT
  have HT := n1_
  clear n1_
  have n1_ := Aside0.mk (X3.out.below hA_)
  clear X3
  have X3 := n1_
  clear n1_
  have n1_ := Aside0.mk (X6.out.below hA_)
  clear X6
  have X6 := n1_
  clear n1_
  clear hA_
  generalize (w8.alloc (.cells #[.int .i64 c.v, .int .i64 c.p, .int .i64 c.pv, .int .i64 c.pn, .slice c.A5 c.bys.length c.c5, .slice c.A6 c.ts.length c.c6, .slice c.Am c.ms.length c.cm, .int .i64 c.b] 29)) = w9 at HB HT X3 X6 X8 ⊢
  generalize w8.heap.size = gc at X8 ⊢
  refine (spec_ReadBlock.calls k2 t x.v x.p x.pv x.pn x.bys x.ts x.ms x.b is w9 F2.out).mono ?_
  rintro e w10 ⟨V4, V5, V6, rfl, h4, h5, h6, hb⟩
  obtain ⟨A4, c4, rfl⟩ := Kd.R_slice h4
  obtain ⟨A5, c5, rfl⟩ := Kd.R_slice h5
  obtain ⟨A6, c6, rfl⟩ := Kd.R_slice h6
  obtain ⟨y, hy, Ky⟩ : ∃ y : Bq, y = ⟨x.v, x.p, x.pv, x.pn, x.b, x.bys, x.ts, x.ms, A4, A5, A6, c4, c5, c6⟩ ∧ Aside0 (y.ok w10) := ⟨_, rfl, ⟨⟨(Kd.R_reads' h4).2.1, (Kd.R_reads' h5).2.1, (Kd.R_reads' h6).2.1, (Kd.R_reads' h4).2.2, (Kd.R_reads' h5).2.2, (Kd.R_reads' h6).2.2⟩⟩⟩
  have n1_ := Aside0.mk (below_weaken HB.out HB.out.size hb)
  clear HB
  have HB := n1_
  clear n1_
  have n1_ := Aside0.mk (tab_at HT.out hb)
  clear HT
  have HT := n1_
  clear n1_
  have n1_ := Aside0.mk (X3.out.below hb)
  clear X3
  have X3 := n1_
  clear n1_
  have n1_ := Aside0.mk (X6.out.below hb)
  clear X6
  have X6 := n1_
  clear n1_
  have n1_ := Aside0.mk (X8.out.below hb)
  clear X8
  have X8 := n1_
  clear n1_
  clear h4 h5 h6 hb
  have HYv : x.v = y.v := by rw [hy]
  have HYp : x.p = y.p := by rw [hy]
  have HYpv : x.pv = y.pv := by rw [hy]
  have HYpn : x.pn = y.pn := by rw [hy]
  have HYb : x.b = y.b := by rw [hy]
  have HYbys : x.bys = y.bys := by rw [hy]
  have HYts : x.ts = y.ts := by rw [hy]
  have HYms : x.ms = y.ms := by rw [hy]
  obtain rfl : A4 = y.A5 := by rw [hy]
  obtain rfl : A5 = y.A6 := by rw [hy]
  obtain rfl : A6 = y.Am := by rw [hy]
  obtain rfl : c4 = y.c5 := by rw [hy]
  obtain rfl : c5 = y.c6 := by rw [hy]
  obtain rfl : c6 = y.cm := by rw [hy]
  clear hy
  rw [HYv, HYp, HYpv, HYpn, HYb, HYbys, HYts, HYms]
  have SXY := Aside0.mk (show Same x y from ⟨HYv, HYp, HYpv, HYpn, HYb, HYbys, HYts, HYms, F3.out.1, F3.out.2.1, F3.out.2.2⟩)
  clear HYv HYp HYpv HYpn HYb HYbys HYts HYms F2
  go_wp2_with fail
  have hA_ := below_alloc (Below.refl w10.heap.size w10) (.cells #[.int .i64 y.v, .int .i64 y.p, .int .i64 y.pv, .int .i64 y.pn, .slice y.A5 y.bys.length y.c5, .slice y.A6 y.ts.length y.c6, .slice y.Am y.ms.length y.cm, .int .i64 y.b] 29)
  have X10 := Aside0.mk (In.new Ky.out)
  clear Ky
  have n1_ := Aside0.mk (below_weaken HB.out HB.out.size hA_)
  clear HB
  have HB := n1_
  clear n1_
  have n1_ := Aside0.mk (tab_at HT.out hA_)
  clear HT
  have HT := n1_
  clear n1_
  have n1_ := Aside0.mk (X3.out.below hA_)
  clear X3
  have X3 := n1_
  clear n1_
  have n1_ := Aside0.mk (X6.out.below hA_)
  clear X6
  have X6 := n1_
  clear n1_
  have n1_ := Aside0.mk (X8.out.below hA_)
  clear X8
  have X8 := n1_
  clear n1_
  clear hA_
  generalize (w10.alloc (.cells #[.int .i64 y.v, .int .i64 y.p, .int .i64 y.pv, .int .i64 y.pn, .slice y.A5 y.bys.length y.c5, .slice y.A6 y.ts.length y.c6, .slice y.Am y.ms.length y.cm, .int .i64 y.b] 29)) = w11 at HB HT X3 X6 X8 X10 ⊢
  generalize w10.heap.size = gy at X10 ⊢
  refine wp_quiet_below (by kernel_rfl) (by kernel_rfl) ?_
  have n1_ := Aside0.mk (below_weaken HB.out HB.out.size (below_drew (Below.refl _ _)))
  clear HB
  have HB := n1_
  clear n1_
  have n1_ := Aside0.mk (tab_at HT.out (below_drew (Below.refl _ _)))
  clear HT
  have HT := n1_
  clear n1_
  have n1_ := Aside0.mk (X3.out.below (below_drew (Below.refl _ _)))
  clear X3
  have X3 := n1_
  clear n1_
  have n1_ := Aside0.mk (X6.out.below (below_drew (Below.refl _ _)))
  clear X6
  have X6 := n1_
  clear n1_
  have n1_ := Aside0.mk (X8.out.below (below_drew (Below.refl _ _)))
  clear X8
  have X8 := n1_
  clear n1_
  have n1_ := Aside0.mk (X10.out.below (below_drew (Below.refl _ _)))
  clear X10
  have X10 := n1_
  clear n1_
  generalize w11.drew = w12 at HB HT X3 X6 X8 X10 ⊢
  have sqX30_ : ∀ p_ : Bw w12, p_.W.cell? ⟨gq, 0, none⟩ = some (.int .i64 q.v) := fun p_ => p_.cell ((X3.out.at_ 0).trans rfl)
  have sqX31_ : ∀ p_ : Bw w12, p_.W.cell? ⟨gq, 1, none⟩ = some (.int .i64 q.p) := fun p_ => p_.cell ((X3.out.at_ 1).trans rfl)
  have sqX32_ : ∀ p_ : Bw w12, p_.W.cell? ⟨gq, 2, none⟩ = some (.int .i64 q.pv) := fun p_ => p_.cell ((X3.out.at_ 2).trans rfl)
  have sqX33_ : ∀ p_ : Bw w12, p_.W.cell? ⟨gq, 3, none⟩ = some (.int .i64 q.pn) := fun p_ => p_.cell ((X3.out.at_ 3).trans rfl)
  have sqX34_ : ∀ p_ : Bw w12, p_.W.cell? ⟨gq, 4, none⟩ = some (.slice q.A5 q.bys.length q.c5) := fun p_ => p_.cell ((X3.out.at_ 4).trans rfl)
  have sqX35_ : ∀ p_ : Bw w12, p_.W.cell? ⟨gq, 5, none⟩ = some (.slice q.A6 q.ts.length q.c6) := fun p_ => p_.cell ((X3.out.at_ 5).trans rfl)
  have sqX36_ : ∀ p_ : Bw w12, p_.W.cell? ⟨gq, 6, none⟩ = some (.slice q.Am q.ms.length q.cm) := fun p_ => p_.cell ((X3.out.at_ 6).trans rfl)
  have sqX37_ : ∀ p_ : Bw w12, p_.W.cell? ⟨gq, 7, none⟩ = some (.int .i64 q.b) := fun p_ => p_.cell ((X3.out.at_ 7).trans rfl)
  have sqX60_ : ∀ p_ : Bw w12, p_.W.cell? ⟨gx, 0, none⟩ = some (.int .i64 x.v) := fun p_ => p_.cell ((X6.out.at_ 0).trans rfl)
  have sqX61_ : ∀ p_ : Bw w12, p_.W.cell? ⟨gx, 1, none⟩ = some (.int .i64 x.p) := fun p_ => p_.cell ((X6.out.at_ 1).trans rfl)
  have sqX62_ : ∀ p_ : Bw w12, p_.W.cell? ⟨gx, 2, none⟩ = some (.int .i64 x.pv) := fun p_ => p_.cell ((X6.out.at_ 2).trans rfl)
  have sqX63_ : ∀ p_ : Bw w12, p_.W.cell? ⟨gx, 3, none⟩ = some (.int .i64 x.pn) := fun p_ => p_.cell ((X6.out.at_ 3).trans rfl)
  have sqX64_ : ∀ p_ : Bw w12, p_.W.cell? ⟨gx, 4, none⟩ = some (.slice x.A5 x.bys.length x.c5) := fun p_ => p_.cell ((X6.out.at_ 4).trans rfl)
  have sqX65_ : ∀ p_ : Bw w12, p_.W.cell? ⟨gx, 5, none⟩ = some (.slice x.A6 x.ts.length x.c6) := fun p_ => p_.cell ((X6.out.at_ 5).trans rfl)
  have sqX66_ : ∀ p_ : Bw w12, p_.W.cell? ⟨gx, 6, none⟩ = some (.slice x.Am x.ms.length x.cm) := fun p_ => p_.cell ((X6.out.at_ 6).trans rfl)
  have sqX67_ : ∀ p_ : Bw w12, p_.W.cell? ⟨gx, 7, none⟩ = some (.int .i64 x.b) := fun p_ => p_.cell ((X6.out.at_ 7).trans rfl)
  have sqX80_ : ∀ p_ : Bw w12, p_.W.cell? ⟨gc, 0, none⟩ = some (.int .i64 c.v) := fun p_ => p_.cell ((X8.out.at_ 0).trans rfl)
  have sqX81_ : ∀ p_ : Bw w12, p_.W.cell? ⟨gc, 1, none⟩ = some (.int .i64 c.p) := fun p_ => p_.cell ((X8.out.at_ 1).trans rfl)
  have sqX82_ : ∀ p_ : Bw w12, p_.W.cell? ⟨gc, 2, none⟩ = some (.int .i64 c.pv) := fun p_ => p_.cell ((X8.out.at_ 2).trans rfl)
  have sqX83_ : ∀ p_ : Bw w12, p_.W.cell? ⟨gc, 3, none⟩ = some (.int .i64 c.pn) := fun p_ => p_.cell ((X8.out.at_ 3).trans rfl)
  have sqX84_ : ∀ p_ : Bw w12, p_.W.cell? ⟨gc, 4, none⟩ = some (.slice c.A5 c.bys.length c.c5) := fun p_ => p_.cell ((X8.out.at_ 4).trans rfl)
  have sqX85_ : ∀ p_ : Bw w12, p_.W.cell? ⟨gc, 5, none⟩ = some (.slice c.A6 c.ts.length c.c6) := fun p_ => p_.cell ((X8.out.at_ 5).trans rfl)
  have sqX86_ : ∀ p_ : Bw w12, p_.W.cell? ⟨gc, 6, none⟩ = some (.slice c.Am c.ms.length c.cm) := fun p_ => p_.cell ((X8.out.at_ 6).trans rfl)
  have sqX87_ : ∀ p_ : Bw w12, p_.W.cell? ⟨gc, 7, none⟩ = some (.int .i64 c.b) := fun p_ => p_.cell ((X8.out.at_ 7).trans rfl)
  have sqX100_ : ∀ p_ : Bw w12, p_.W.cell? ⟨gy, 0, none⟩ = some (.int .i64 y.v) := fun p_ => p_.cell ((X10.out.at_ 0).trans rfl)
  have sqX101_ : ∀ p_ : Bw w12, p_.W.cell? ⟨gy, 1, none⟩ = some (.int .i64 y.p) := fun p_ => p_.cell ((X10.out.at_ 1).trans rfl)
  have sqX102_ : ∀ p_ : Bw w12, p_.W.cell? ⟨gy, 2, none⟩ = some (.int .i64 y.pv) := fun p_ => p_.cell ((X10.out.at_ 2).trans rfl)
  have sqX103_ : ∀ p_ : Bw w12, p_.W.cell? ⟨gy, 3, none⟩ = some (.int .i64 y.pn) := fun p_ => p_.cell ((X10.out.at_ 3).trans rfl)
  have sqX104_ : ∀ p_ : Bw w12, p_.W.cell? ⟨gy, 4, none⟩ = some (.slice y.A5 y.bys.length y.c5) := fun p_ => p_.cell ((X10.out.at_ 4).trans rfl)
  have sqX105_ : ∀ p_ : Bw w12, p_.W.cell? ⟨gy, 5, none⟩ = some (.slice y.A6 y.ts.length y.c6) := fun p_ => p_.cell ((X10.out.at_ 5).trans rfl)
  have sqX106_ : ∀ p_ : Bw w12, p_.W.cell? ⟨gy, 6, none⟩ = some (.slice y.Am y.ms.length y.cm) := fun p_ => p_.cell ((X10.out.at_ 6).trans rfl)
  have sqX107_ : ∀ p_ : Bw w12, p_.W.cell? ⟨gy, 7, none⟩ = some (.int .i64 y.b) := fun p_ => p_.cell ((X10.out.at_ 7).trans rfl)
  repeat (go_big_quiet_step ((rename_i p_; have hb := p_.h; have n_X3 := X3.out.below hb; have n_X6 := X6.out.below hb; have n_X8 := X8.out.below hb; have n_X10 := X10.out.below hb; have n_T := tab_at HT.out hb; first | (go_at_fn 11; with_reducible exact Calls.bw (like_c x y p_.W SXY.out n_X6.ok n_X10.ok)) | (go_at_fn 12; with_reducible exact Calls.bw (spec_ShowBlock.calls k1 q.v q.p q.pv q.pn q.A5 q.c5 q.bys q.A6 q.c6 q.ts q.Am q.cm q.ms q.b s p_.W n_X3.ok.h5 n_X3.ok.l5 n_X3.ok.h6 n_X3.ok.l6 n_X3.ok.hm n_X3.ok.lm E2.out)) | (go_at_fn 13; with_reducible exact Calls.bw (impl_Name.calls k1 q.v q.p q.pv q.pn q.A5 q.c5 q.bys q.A6 q.c6 q.ts q.Am q.cm q.ms q.b m p_.W n_X3.ok.h5 n_X3.ok.l5 n_X3.ok.h6 n_X3.ok.l6 n_X3.ok.hm n_X3.ok.lm E3.out)) | (go_at_fn 14; with_reducible exact Calls.bw (spec_Name.calls k1 q.v q.p q.pv q.pn q.A5 q.c5 q.bys q.A6 q.c6 q.ts q.Am q.cm q.ms q.b m p_.W n_X3.ok.h5 n_X3.ok.l5 n_X3.ok.h6 n_X3.ok.l6 n_X3.ok.hm n_X3.ok.lm E4.out)) | (go_at_fn 15; with_reducible exact Calls.bw (impl_BlockOk.calls k3 c.v c.p c.pv c.pn c.A5 c.c5 c.bys c.A6 c.c6 c.ts c.Am c.cm c.ms c.b n o p_.W n_X8.ok.h5 n_X8.ok.l5 n_X8.ok.h6 n_X8.ok.l6 n_X8.ok.hm n_X8.ok.lm G1.out n_T)) | (go_at_fn 16; with_reducible exact Calls.bw (spec_BlockOk.calls k3 c.v c.p c.pv c.pn c.A5 c.c5 c.bys c.A6 c.c6 c.ts c.Am c.cm c.ms c.b n o p_.W n_X8.ok.h5 n_X8.ok.l5 n_X8.ok.h6 n_X8.ok.l6 n_X8.ok.hm n_X8.ok.lm G2.out)))))
  refine wpQuiet_nil ?_
  clear sqX30_ sqX31_ sqX32_ sqX33_ sqX34_ sqX35_ sqX36_ sqX37_ sqX60_ sqX61_ sqX62_ sqX63_ sqX64_ sqX65_ sqX66_ sqX67_ sqX80_ sqX81_ sqX82_ sqX83_ sqX84_ sqX85_ sqX86_ sqX87_ sqX100_ sqX101_ sqX102_ sqX103_ sqX104_ sqX105_ sqX106_ sqX107_
  rintro w13 ⟨q_, hq_⟩
  have hb := q_.h
  rw [← hq_] at hb
  clear hq_ q_
  have n1_ := Aside0.mk (below_weaken HB.out HB.out.size hb)
  clear HB
  have HB := n1_
  clear n1_
  have n1_ := Aside0.mk (tab_at HT.out hb)
  clear HT
  have HT := n1_
  clear n1_
  have n1_ := Aside0.mk (X3.out.below hb)
  clear X3
  have X3 := n1_
  clear n1_
  have n1_ := Aside0.mk (X6.out.below hb)
  clear X6
  have X6 := n1_
  clear n1_
  have n1_ := Aside0.mk (X8.out.below hb)
  clear X8
  have X8 := n1_
  clear n1_
  have n1_ := Aside0.mk (X10.out.below hb)
  clear X10
  have X10 := n1_
  clear n1_
  clear hb
  go_upto_if 69 with (fail)
  go_cut [4] (fun v4 wc => v4 = .string s ∧ Aside0 (Below w.heap.size w wc) ∧ Aside0 (TabOk wc) ∧ Aside0 (In wc gx x) ∧ Aside0 (In wc gc c))
  case first =>
   cases cs : s.toList.isEmpty with
   | true =>
    go_wp2
    go_meet
    case rel => exact ⟨rfl, HB, HT, X6, X8⟩
   | false =>
    have E6 := Aside0.mk (E6.out cs)
    go_wp2_with fail
    clear cs
    refine (impl_ReadBlock.calls k1 s q.v q.p q.pv q.pn q.bys q.ts q.ms q.b true w13 E6.out).mono ?_
    rintro e w14 ⟨V4, V5, V6, rfl, h4, h5, h6, hb⟩
    obtain ⟨A4, c4, rfl⟩ := Kd.R_slice h4
    obtain ⟨A5, c5, rfl⟩ := Kd.R_slice h5
    obtain ⟨A6, c6, rfl⟩ := Kd.R_slice h6
    have SZQ := Aside0.mk (show Same ⟨q.v, q.p, q.pv, q.pn, q.b, q.bys, q.ts, q.ms, A4, A5, A6, c4, c5, c6⟩ q from ⟨rfl, rfl, rfl, rfl, rfl, rfl, rfl, rfl, (by have := Sq.out.n5; dsimp only; omega), (by have := Sq.out.n6; dsimp only; omega), (by have := Sq.out.nm; dsimp only; omega)⟩)
    have Kz := Aside0.mk (show Bq.ok ⟨q.v, q.p, q.pv, q.pn, q.b, q.bys, q.ts, q.ms, A4, A5, A6, c4, c5, c6⟩ w14 from ⟨(Kd.R_reads' h4).2.1, (Kd.R_reads' h5).2.1, (Kd.R_reads' h6).2.1, (Kd.R_reads' h4).2.2, (Kd.R_reads' h5).2.2, (Kd.R_reads' h6).2.2⟩)
    have n1_ := Aside0.mk (below_weaken HB.out HB.out.size hb)
    clear HB
    have HB := n1_
    clear n1_
    have n1_ := Aside0.mk (tab_at HT.out hb)
    clear HT
    have HT := n1_
    clear n1_
    have n1_ := Aside0.mk (X3.out.below hb)
    clear X3
    have X3 := n1_
    clear n1_
    have n1_ := Aside0.mk (X6.out.below hb)
    clear X6
    have X6 := n1_
    clear n1_
    have n1_ := Aside0.mk (X8.out.below hb)
    clear X8
    have X8 := n1_
    clear n1_
    clear h4 h5 h6 hb
    go_wp2_with fail
    have hA_ := below_alloc (Below.refl w14.heap.size w14) (.cells #[.int .i64 q.v, .int .i64 q.p, .int .i64 q.pv, .int .i64 q.pn, .slice A4 q.bys.length c4, .slice A5 q.ts.length c5, .slice A6 q.ms.length c6, .int .i64 q.b] 29)
    have X12 := Aside0.mk (In.new Kz.out)
    clear Kz
    have n1_ := Aside0.mk (below_weaken HB.out HB.out.size hA_)
    clear HB
    have HB := n1_
    clear n1_
    have n1_ := Aside0.mk (tab_at HT.out hA_)
    clear HT
    have HT := n1_
    clear n1_
    have n1_ := Aside0.mk (X3.out.below hA_)
    clear X3
    have X3 := n1_
    clear n1_
    have n1_ := Aside0.mk (X6.out.below hA_)
    clear X6
    have X6 := n1_
    clear n1_
    have n1_ := Aside0.mk (X8.out.below hA_)
    clear X8
    have X8 := n1_
    clear n1_
    clear hA_
    generalize (w14.alloc (.cells #[.int .i64 q.v, .int .i64 q.p, .int .i64 q.pv, .int .i64 q.pn, .slice A4 q.bys.length c4, .slice A5 q.ts.length c5, .slice A6 q.ms.length c6, .int .i64 q.b] 29)) = w15 at HB HT X3 X6 X8 X12 ⊢
    generalize w14.heap.size = gz at X12 ⊢
    refine wp_quiet_below (by kernel_rfl) (by kernel_rfl) ?_
    have n1_ := Aside0.mk (below_weaken HB.out HB.out.size (below_drew (Below.refl _ _)))
    clear HB
    have HB := n1_
    clear n1_
    have n1_ := Aside0.mk (tab_at HT.out (below_drew (Below.refl _ _)))
    clear HT
    have HT := n1_
    clear n1_
    have n1_ := Aside0.mk (X3.out.below (below_drew (Below.refl _ _)))
    clear X3
    have X3 := n1_
    clear n1_
    have n1_ := Aside0.mk (X6.out.below (below_drew (Below.refl _ _)))
    clear X6
    have X6 := n1_
    clear n1_
    have n1_ := Aside0.mk (X8.out.below (below_drew (Below.refl _ _)))
    clear X8
    have X8 := n1_
    clear n1_
    have n1_ := Aside0.mk (X12.out.below (below_drew (Below.refl _ _)))
    clear X12
    have X12 := n1_
    clear n1_
    generalize w15.drew = w16 at HB HT X3 X6 X8 X12 ⊢
    have sqX30_ : ∀ p_ : Bw w16, p_.W.cell? ⟨gq, 0, none⟩ = some (.int .i64 q.v) := fun p_ => p_.cell ((X3.out.at_ 0).trans rfl)
    have sqX31_ : ∀ p_ : Bw w16, p_.W.cell? ⟨gq, 1, none⟩ = some (.int .i64 q.p) := fun p_ => p_.cell ((X3.out.at_ 1).trans rfl)
    have sqX32_ : ∀ p_ : Bw w16, p_.W.cell? ⟨gq, 2, none⟩ = some (.int .i64 q.pv) := fun p_ => p_.cell ((X3.out.at_ 2).trans rfl)
    have sqX33_ : ∀ p_ : Bw w16, p_.W.cell? ⟨gq, 3, none⟩ = some (.int .i64 q.pn) := fun p_ => p_.cell ((X3.out.at_ 3).trans rfl)
    have sqX34_ : ∀ p_ : Bw w16, p_.W.cell? ⟨gq, 4, none⟩ = some (.slice q.A5 q.bys.length q.c5) := fun p_ => p_.cell ((X3.out.at_ 4).trans rfl)
    have sqX35_ : ∀ p_ : Bw w16, p_.W.cell? ⟨gq, 5, none⟩ = some (.slice q.A6 q.ts.length q.c6) := fun p_ => p_.cell ((X3.out.at_ 5).trans rfl)
    have sqX36_ : ∀ p_ : Bw w16, p_.W.cell? ⟨gq, 6, none⟩ = some (.slice q.Am q.ms.length q.cm) := fun p_ => p_.cell ((X3.out.at_ 6).trans rfl)
    have sqX37_ : ∀ p_ : Bw w16, p_.W.cell? ⟨gq, 7, none⟩ = some (.int .i64 q.b) := fun p_ => p_.cell ((X3.out.at_ 7).trans rfl)
    have sqX120_ : ∀ p_ : Bw w16, p_.W.cell? ⟨gz, 0, none⟩ = some (.int .i64 q.v) := fun p_ => p_.cell ((X12.out.at_ 0).trans rfl)
    have sqX121_ : ∀ p_ : Bw w16, p_.W.cell? ⟨gz, 1, none⟩ = some (.int .i64 q.p) := fun p_ => p_.cell ((X12.out.at_ 1).trans rfl)
    have sqX122_ : ∀ p_ : Bw w16, p_.W.cell? ⟨gz, 2, none⟩ = some (.int .i64 q.pv) := fun p_ => p_.cell ((X12.out.at_ 2).trans rfl)
    have sqX123_ : ∀ p_ : Bw w16, p_.W.cell? ⟨gz, 3, none⟩ = some (.int .i64 q.pn) := fun p_ => p_.cell ((X12.out.at_ 3).trans rfl)
    have sqX124_ : ∀ p_ : Bw w16, p_.W.cell? ⟨gz, 4, none⟩ = some (.slice A4 q.bys.length c4) := fun p_ => p_.cell ((X12.out.at_ 4).trans rfl)
    have sqX125_ : ∀ p_ : Bw w16, p_.W.cell? ⟨gz, 5, none⟩ = some (.slice A5 q.ts.length c5) := fun p_ => p_.cell ((X12.out.at_ 5).trans rfl)
    have sqX126_ : ∀ p_ : Bw w16, p_.W.cell? ⟨gz, 6, none⟩ = some (.slice A6 q.ms.length c6) := fun p_ => p_.cell ((X12.out.at_ 6).trans rfl)
    have sqX127_ : ∀ p_ : Bw w16, p_.W.cell? ⟨gz, 7, none⟩ = some (.int .i64 q.b) := fun p_ => p_.cell ((X12.out.at_ 7).trans rfl)
    repeat (go_big_quiet_step ((rename_i p_; have hb := p_.h; have n_X3 := X3.out.below hb; have n_X12 := X12.out.below hb; have n_T := tab_at HT.out hb; first | (go_at_fn 11; with_reducible exact Calls.bw (like_c ⟨q.v, q.p, q.pv, q.pn, q.b, q.bys, q.ts, q.ms, A4, A5, A6, c4, c5, c6⟩ q p_.W SZQ.out n_X12.ok n_X3.ok)) | (go_at_fn 13; with_reducible exact Calls.bw (impl_Name.calls k1 q.v q.p q.pv q.pn q.A5 q.c5 q.bys q.A6 q.c6 q.ts q.Am q.cm q.ms q.b m p_.W n_X3.ok.h5 n_X3.ok.l5 n_X3.ok.h6 n_X3.ok.l6 n_X3.ok.hm n_X3.ok.lm E3.out)) | (go_at_fn 13; with_reducible exact Calls.bw (impl_Name.calls k1 q.v q.p q.pv q.pn A4 c4 q.bys A5 c5 q.ts A6 c6 q.ms q.b m p_.W n_X12.ok.h5 n_X12.ok.l5 n_X12.ok.h6 n_X12.ok.l6 n_X12.ok.hm n_X12.ok.lm E3.out)))))
    refine wpQuiet_nil ?_
    clear sqX30_ sqX31_ sqX32_ sqX33_ sqX34_ sqX35_ sqX36_ sqX37_ sqX120_ sqX121_ sqX122_ sqX123_ sqX124_ sqX125_ sqX126_ sqX127_
    rintro w17 ⟨q_, hq_⟩
    have hb := q_.h
    rw [← hq_] at hb
    clear hq_ q_
    have n1_ := Aside0.mk (below_weaken HB.out HB.out.size hb)
    clear HB
    have HB := n1_
    clear n1_
    have n1_ := Aside0.mk (tab_at HT.out hb)
    clear HT
    have HT := n1_
    clear n1_
    have n1_ := Aside0.mk (X3.out.below hb)
    clear X3
    have X3 := n1_
    clear n1_
    have n1_ := Aside0.mk (X6.out.below hb)
    clear X6
    have X6 := n1_
    clear n1_
    have n1_ := Aside0.mk (X8.out.below hb)
    clear X8
    have X8 := n1_
    clear n1_
    have n1_ := Aside0.mk (X12.out.below hb)
    clear X12
    have X12 := n1_
    clear n1_
    clear hb
    go_wp2
    go_meet
    case rel => exact ⟨rfl, HB, HT, X6, X8⟩
 
  case rest =>
   obtain ⟨rfl, HB, HT, X6, X8⟩ := hcut
   go_upto_region 15 with (fail)
   go_cut [113] (fun v113 wc => v113 = .bool false ∧ Aside0 (Below w.heap.size w wc) ∧ Aside0 (In wc gx x))
   case first =>
    have ha80 := (X8.out.at_ 0).trans rfl
    have ha81 := (X8.out.at_ 1).trans rfl
    have ha82 := (X8.out.at_ 2).trans rfl
    have ha83 := (X8.out.at_ 3).trans rfl
    have ha84 := (X8.out.at_ 4).trans rfl
    have ha85 := (X8.out.at_ 5).trans rfl
    have ha86 := (X8.out.at_ 6).trans rfl
    have ha87 := (X8.out.at_ 7).trans rfl
    go_wp2_with fail
    clear ha80 ha81 ha82 ha83 ha84 ha85 ha86 ha87
    refine (impl_BlockOk.calls k3 c.v c.p c.pv c.pn c.A5 c.c5 c.bys c.A6 c.c6 c.ts c.Am c.cm c.ms c.b n o _ X8.out.ok.h5 X8.out.ok.l5 X8.out.ok.h6 X8.out.ok.l6 X8.out.ok.hm X8.out.ok.lm G1.out HT.out).mono ?_
    rintro e w18 ⟨rfl, hb⟩
    have n1_ := Aside0.mk (below_weaken HB.out HB.out.size hb)
    clear HB
    have HB := n1_
    clear n1_
    have n1_ := Aside0.mk (X6.out.below hb)
    clear X6
    have X6 := n1_
    clear n1_
    have n1_ := Aside0.mk (X8.out.below hb)
    clear X8
    have X8 := n1_
    clear n1_
    clear hb HT
    cases o with
    | false =>
     go_wp2
     go_meet
     case rel => exact ⟨rfl, HB, X6⟩
    | true =>
     obtain ⟨s8, h8, n8, p8, v8⟩ := G3.out rfl
     have H8 := Aside0.mk h8
     have v9 : decide (c.pv ≥ c.v) = false := decide_eq_false (by omega)
     have p9 : (c.p != c.pn) = false := by rw [p8]; simp
     clear h8 v8 p8
     have ha80 := (X8.out.at_ 0).trans rfl
     have ha81 := (X8.out.at_ 1).trans rfl
     have ha82 := (X8.out.at_ 2).trans rfl
     have ha83 := (X8.out.at_ 3).trans rfl
     have ha84 := (X8.out.at_ 4).trans rfl
     have ha85 := (X8.out.at_ 5).trans rfl
     have ha86 := (X8.out.at_ 6).trans rfl
     have ha87 := (X8.out.at_ 7).trans rfl
     go_wp2_with fail
     refine (impl_ShowBlock.calls k3 c.v c.p c.pv c.pn c.A5 c.c5 c.bys c.A6 c.c6 c.ts c.Am c.cm c.ms c.b s8 _ X8.out.ok.h5 X8.out.ok.l5 X8.out.ok.h6 X8.out.ok.l6 X8.out.ok.hm X8.out.ok.lm H8.out).mono ?_
     rintro e w19 ⟨rfl, hb⟩
     clear ha80 ha81 ha82 ha83 ha84 ha85 ha86 ha87
     have n1_ := Aside0.mk (below_weaken HB.out HB.out.size hb)
     clear HB
     have HB := n1_
     clear n1_
     have n1_ := Aside0.mk (X6.out.below hb)
     clear X6
     have X6 := n1_
     clear n1_
     have n1_ := Aside0.mk (X8.out.below hb)
     clear X8
     have X8 := n1_
     clear n1_
     clear hb
     have ha80 := (X8.out.at_ 0).trans rfl
     have ha81 := (X8.out.at_ 1).trans rfl
     have ha82 := (X8.out.at_ 2).trans rfl
     have ha83 := (X8.out.at_ 3).trans rfl
     have ha84 := (X8.out.at_ 4).trans rfl
     have ha85 := (X8.out.at_ 5).trans rfl
     have ha86 := (X8.out.at_ 6).trans rfl
     have ha87 := (X8.out.at_ 7).trans rfl
     go_wp2
     go_meet
     case rel => exact ⟨rfl, HB, X6⟩
   case rest =>
    obtain ⟨rfl, HB, X6⟩ := hcut
    have ha60 := (X6.out.at_ 0).trans rfl
    have ha61 := (X6.out.at_ 1).trans rfl
    have ha62 := (X6.out.at_ 2).trans rfl
    have ha63 := (X6.out.at_ 3).trans rfl
    have ha64 := (X6.out.at_ 4).trans rfl
    have ha65 := (X6.out.at_ 5).trans rfl
    have ha66 := (X6.out.at_ 6).trans rfl
    have ha67 := (X6.out.at_ 7).trans rfl
    cases is with
    | false =>
     go_wp2_with fail
     obtain ⟨z1, z2, z3, z4, z5, z6, z7, z8⟩ := F4.out (by simp)
     refine (like_c x ⟨0, 0, 0, 0, 0, [], [], [], none, none, none, 0, 0, 0⟩ _ ⟨z1, z2, z3, z4, z8, z5, z6, z7, F3.out.1, F3.out.2.1, F3.out.2.2⟩ X6.out.ok ⟨Nat.le_refl _, Nat.le_refl _, Nat.le_refl _, Kd.C_nil _ _, Kd.C_nil _ _, Kd.C_nil _ _⟩).mono ?_
     rintro e w20 ⟨rfl, hb⟩
     clear ha60 ha61 ha62 ha63 ha64 ha65 ha66 ha67 z1 z2 z3 z4 z5 z6 z7 z8
     have n1_ := Aside0.mk (below_weaken HB.out HB.out.size hb)
     clear HB
     have HB := n1_
     clear n1_
     have n1_ := Aside0.mk (X6.out.below hb)
     clear X6
     have X6 := n1_
     clear n1_
     clear hb
     have ha60 := (X6.out.at_ 0).trans rfl
     have ha61 := (X6.out.at_ 1).trans rfl
     have ha62 := (X6.out.at_ 2).trans rfl
     have ha63 := (X6.out.at_ 3).trans rfl
     have ha64 := (X6.out.at_ 4).trans rfl
     have ha65 := (X6.out.at_ 5).trans rfl
     have ha66 := (X6.out.at_ 6).trans rfl
     have ha67 := (X6.out.at_ 7).trans rfl
     go_wp2
     go_ret
     exact ⟨rfl, HB.out⟩
    | true =>
     go_wp2_with fail
     refine (impl_ShowBlock.calls k2 x.v x.p x.pv x.pn x.A5 x.c5 x.bys x.A6 x.c6 x.ts x.Am x.cm x.ms x.b t _ X6.out.ok.h5 X6.out.ok.l5 X6.out.ok.h6 X6.out.ok.l6 X6.out.ok.hm X6.out.ok.lm (F5.out (by simp))).mono ?_
     rintro e w20 ⟨rfl, hb⟩
     clear ha60 ha61 ha62 ha63 ha64 ha65 ha66 ha67
     have n1_ := Aside0.mk (below_weaken HB.out HB.out.size hb)
     clear HB
     have HB := n1_
     clear n1_
     have n1_ := Aside0.mk (X6.out.below hb)
     clear X6
     have X6 := n1_
     clear n1_
     clear hb
     go_wp2
     go_ret
     exact ⟨rfl, HB.out⟩
end Go.Proofs.YtokhjhkkncbjeaaDoor.PFnBlocks
