import Derived.Test.YtokhjhkkncbjeaaDoorPFnBlocksx95
import Derived.Test.YtokhjhkkncbjeaaDoorPFnBlocksx92
import Derived.Test.YtokhjhkkncbjeaaDoorPFnBlocksx12
import Derived.Test.YtokhjhkkncbjeaaDoorPFnBlocksx15
namespace Go.Proofs.YtokhjhkkncbjeaaDoor.PFnBlocks
open Go.RowKit Go.Proofs.YtokhjhkkncbjeaaDoorW.PrintWords Go.Proofs.YtokhjhkkncbjeaaDoorW.PrintLast Go.Proofs.YtokhjhkkncbjeaaDoorW.PrintMore
attribute [local go_sem] max2_int min2_int max_two min_two max_three min_three max_four min_four
attribute [local go_sem high] str_gtr str_leq str_geq
set_option linter.unusedVariables false
set_option linter.unusedSimpArgs false
/-- A block as it is read. -/
structure Bq where
 v : Int
 p : Int
 pv : Int
 pn : Int
 b : Int
 bys : List Int
 ts : List Int
 ms : List ByteArray
 A5 : Option Addr
 A6 : Option Addr
 Am : Option Addr
 c5 : Nat
 c6 : Nat
 cm : Nat
structure Bq.ok (q : Bq) (W : World) : Prop where
 l5 : q.bys.length ≤ q.c5
 l6 : q.ts.length ≤ q.c6
 lm : q.ms.length ≤ q.cm
 h5 : Kd.C (Kd.int .i64) W q.A5 q.bys.length q.bys
 h6 : Kd.C (Kd.int .i64) W q.A6 q.ts.length q.ts
 hm : Kd.C Kd.string W q.Am q.ms.length q.ms
theorem Bq.ok.below {q : Bq} {W W1 : World} (h : q.ok W) (hb : Below W.heap.size W W1) : q.ok W1 := ⟨h.l5, h.l6, h.lm, Kd.C_below h.h5 hb, Kd.C_below h.h6 hb, Kd.C_below h.hm hb⟩
structure Bq.small (q : Bq) : Prop where
 n5 : q.bys.length ≤ 4
 n6 : q.ts.length ≤ 4
 nm : q.ms.length ≤ 5
 i5 : ∀ x ∈ q.bys, -9223372036854775808 ≤ x ∧ x ≤ 9223372036854775807
/-- A block whose rows all lie in ok. -/
structure Bq.ap (q : Bq) (W : World) (ok : Nat → Prop) : Prop where
 v5 : Kd.V (Kd.int .i64) 2 W 0 ok (.slice q.A5 q.bys.length q.c5) q.bys
 v6 : Kd.V (Kd.int .i64) 2 W 0 ok (.slice q.A6 q.ts.length q.c6) q.ts
 vm : Kd.V Kd.string 9 W 0 ok (.slice q.Am q.ms.length q.cm) q.ms
theorem Bq.ap.put {q : Bq} {W : World} {ok : Nat → Prop} (h : q.ap W ok) {g : Nat} (hg : ∀ k, ok k → k ≠ g) (j : Nat) (u : Value) : q.ap (W.setCell ⟨g, j, none⟩ u) ok := ⟨Kd.V_far h.v5 hg u, Kd.V_far h.v6 hg u, Kd.V_far h.vm hg u⟩
theorem Bq.ap.below {q : Bq} {W W1 : World} {ok : Nat → Prop} (h : q.ap W ok) (hb : Below W.heap.size W W1) : q.ap W1 ok := ⟨Kd.V_below h.v5 hb, Kd.V_below h.v6 hb, Kd.V_below h.vm hb⟩
theorem Bq.ap.keep {q : Bq} {W W1 : World} {ok : Nat → Prop} {g : Nat} (h : q.ap W ok) (hk : KeepBut W W1 g none) (hg : ∀ k, ok k → k ≠ g) : q.ap W1 ok := ⟨Kd.V_keep h.v5 hk hg, Kd.V_keep h.v6 hk hg, Kd.V_keep h.vm hk hg⟩
theorem Bq.ap.ok {q : Bq} {W : World} {o : Nat → Prop} (h : q.ap W o) : q.ok W := by
 obtain ⟨_, l5, h5⟩ := Kd.V_reads' h.v5
 obtain ⟨_, l6, h6⟩ := Kd.V_reads' h.v6
 obtain ⟨_, lm, hm⟩ := Kd.V_reads' h.vm
 exact ⟨l5, l6, lm, h5, h6, hm⟩
/-- A block is drawn; none of its rows lies in a block that was there before. -/
theorem draw_c {w0 w : World} {g : Nat} (hI : Cs w0 w g) (hB : Below w0.heap.size w0 w) :
  Calls Tryd.prog 18 #[.pointer (some ⟨g, 0, none⟩)] w fun e w' => ∃ q : Bq, e = .returned (.agg #[.int .i64 q.v, .int .i64 q.p, .int .i64 q.pv, .int .i64 q.pn, .slice q.A5 q.bys.length q.c5, .slice q.A6 q.ts.length q.c6, .slice q.Am q.ms.length q.cm, .int .i64 q.b]) ∧ q.small ∧ (∀ (g2 : Nat) (cs : Array Value), g2 < w.heap.size → w'.heap[g2]? = some (.cells cs 29 (0, 0)) → q.ap w' (fun k => k ≠ g2 ∧ k ≠ g)) ∧ q.ok w' ∧ Cs w0 w' g ∧ Below w0.heap.size w0 w' ∧ KeepBut w w' g none := by
 refine (spec_l15DrawBlock.calls g w0 w hI hB).mono ?_
 have hlt := hI.lt
 rintro e w' ⟨v, p, pv, pn, b, V5, V6, mv, ms, rfl, ⟨bys, ts, h5, h6, l5, l6, hi⟩, hm, lm, h1, h2, h3⟩
 obtain ⟨A5, c5, rfl⟩ := Kd.V_slice h5
 obtain ⟨A6, c6, rfl⟩ := Kd.V_slice h6
 obtain ⟨Am, cm, rfl⟩ := Kd.R_slice hm
 have r5 := Kd.V_reads' h5
 have r6 := Kd.V_reads' h6
 have rm := Kd.R_reads' hm
 refine ⟨⟨v, p, pv, pn, b, bys, ts, ms, A5, A6, Am, c5, c6, cm⟩, rfl, ⟨l5, l6, lm, hi⟩, fun g2 cs hl hg => ?_, ⟨r5.2.1, r6.2.1, rm.2.1, r5.2.2, r6.2.2, rm.2.2⟩, h1, h2, h3⟩
 obtain ⟨cg, hcg⟩ := h1.blk
 exact ⟨Kd.V_mono h5 (fun k h => by omega), Kd.V_mono h6 (fun k h => by omega), Kd.R_V (Kd.R_mono (Kd.R_types (Kd.R_types hm hg (by decide)) hcg (by decide)) (fun _ h => ⟨h.1.2, h.2⟩))⟩
set_option maxHeartbeats 4000000 in
set_option maxRecDepth 100000 in
theorem DrawShowBlock_c (A0 : Option Addr) (c0 : Nat) (l0 : List Int) (w : World) (hl : (l0.length : Int) < 9223372036854775807) (hr0 : Kd.C (Kd.int .u8) w A0 l0.length l0) (hc0 : l0.length ≤ c0) :
  Calls Tryd.prog 5 #[.slice A0 l0.length c0] w fun e w' => ∃ q : Bq, e = .returned (.agg #[.int .i64 q.v, .int .i64 q.p, .int .i64 q.pv, .int .i64 q.pn, .slice q.A5 q.bys.length q.c5, .slice q.A6 q.ts.length q.c6, .slice q.Am q.ms.length q.cm, .int .i64 q.b]) ∧ q.small ∧ q.ok w' ∧ Below w.heap.size w w' := by
 have eg1 : ∀ args w, (callFunc 17 args).run Tryd.prog w = .ok (.enter 17 args) w := enters_ Tryd.func17 (by kernel_rfl) rfl
 have eg2 : ∀ args w, (callFunc 18 args).run Tryd.prog w = .ok (.enter 18 args) w := enters_ Tryd.func18 (by kernel_rfl) rfl
 have hu29 := Tryd.underlying29
 have HR := Aside0.mk hr0
 have HC := Aside0.mk hc0
 have HL := Aside0.mk hl
 clear hr0 hc0 hl
 go_enter Tryd.func5, Tryd.ntmps5
 go_wp2_with (first | ((with_reducible refine gate_dst (N := 2) rfl ?_); refine box_event ?hg (N := 2) ?hd (cs := #[.int .i64 0, .int .i64 0, .int .i64 0, .int .i64 0, .slice none 0 0, .slice none 0 0, .slice none 0 0, .int .i64 0]) (t := 29) ?hr ?_; (case hd => rfl); (case hg => rfl); (case hr => first | (go_simp; done) | (go_simp; rfl)); intro g2 hg w1 hbox hb; have BK2 := Aside0.mk hbox; have HB := Aside0.mk hb; have GE2 := Aside0.mk (Nat.le_of_eq hg.symm); clear hg hbox hb))
 refine (new_c A0 c0 l0 w1 HL.out (Kd.C_below HR.out HB.out) HC.out).mono ?_
 rintro e w2 ⟨g, rfl, hi, hb⟩
 have HI := Aside0.mk hi
 have H2 := Aside0.mk hb
 have L2 := Aside0.mk (show g2 < w2.heap.size from Nat.lt_of_lt_of_le (blk_lt BK2.out) hb.size)
 clear hi hb
 go_wp2_with fail
 refine (draw_c HI.out H2.out).mono ?_
 rintro e w3 ⟨q, rfl, hs, ha, hk, hi, hb, hkb⟩
 have n1_ := Aside0.mk (blk_below BK2.out hb)
 have QA := Aside0.mk (ha g2 _ L2.out n1_.out)
 have QS := Aside0.mk hs
 have n2_ := Aside0.mk (below_weaken HB.out HB.out.size hb)
 clear HI H2 hs ha hk hi hb hkb BK2 HB
 have BK2 := n1_
 have HB := n2_
 clear n1_ n2_
 have hs0 := (blk_cell BK2.out 0).trans rfl
 have hs1 := (blk_cell BK2.out 1).trans rfl
 have hs2 := (blk_cell BK2.out 2).trans rfl
 have hs3 := (blk_cell BK2.out 3).trans rfl
 have hs4 := (blk_cell BK2.out 4).trans rfl
 have hs5 := (blk_cell BK2.out 5).trans rfl
 have hs6 := (blk_cell BK2.out 6).trans rfl
 have hs7 := (blk_cell BK2.out 7).trans rfl
 have hsf0 := blk_frozen BK2.out 0
 have hsf1 := blk_frozen BK2.out 1
 have hsf2 := blk_frozen BK2.out 2
 have hsf3 := blk_frozen BK2.out 3
 have hsf4 := blk_frozen BK2.out 4
 have hsf5 := blk_frozen BK2.out 5
 have hsf6 := blk_frozen BK2.out 6
 have hsf7 := blk_frozen BK2.out 7
 go_wp2
 refine bodyPost_ret (results_cell_row rfl _ _ g2 29 #[.int .i64 q.v, .int .i64 q.p, .int .i64 q.pv, .int .i64 q.pn, .slice q.A5 q.bys.length q.c5, .slice q.A6 q.ts.length q.c6, .slice q.Am q.ms.length q.cm, .int .i64 q.b] (0, 0) _ rfl (by refine blk_put (cs := #[.int .i64 q.v, .int .i64 q.p, .int .i64 q.pv, .int .i64 q.pn, .slice q.A5 q.bys.length q.c5, .slice q.A6 q.ts.length q.c6, .slice q.Am q.ms.length q.cm, .int .i64 0]) ?_ 7 _ rfl; refine blk_put (cs := #[.int .i64 q.v, .int .i64 q.p, .int .i64 q.pv, .int .i64 q.pn, .slice q.A5 q.bys.length q.c5, .slice q.A6 q.ts.length q.c6, .slice none 0 0, .int .i64 0]) ?_ 6 _ rfl; refine blk_put (cs := #[.int .i64 q.v, .int .i64 q.p, .int .i64 q.pv, .int .i64 q.pn, .slice q.A5 q.bys.length q.c5, .slice none 0 0, .slice none 0 0, .int .i64 0]) ?_ 5 _ rfl; refine blk_put (cs := #[.int .i64 q.v, .int .i64 q.p, .int .i64 q.pv, .int .i64 q.pn, .slice none 0 0, .slice none 0 0, .slice none 0 0, .int .i64 0]) ?_ 4 _ rfl; refine blk_put (cs := #[.int .i64 q.v, .int .i64 q.p, .int .i64 q.pv, .int .i64 0, .slice none 0 0, .slice none 0 0, .slice none 0 0, .int .i64 0]) ?_ 3 _ rfl; refine blk_put (cs := #[.int .i64 q.v, .int .i64 q.p, .int .i64 0, .int .i64 0, .slice none 0 0, .slice none 0 0, .slice none 0 0, .int .i64 0]) ?_ 2 _ rfl; refine blk_put (cs := #[.int .i64 q.v, .int .i64 0, .int .i64 0, .int .i64 0, .slice none 0 0, .slice none 0 0, .slice none 0 0, .int .i64 0]) ?_ 1 _ rfl; refine blk_put (cs := #[.int .i64 0, .int .i64 0, .int .i64 0, .int .i64 0, .slice none 0 0, .slice none 0 0, .slice none 0 0, .int .i64 0]) ?_ 0 _ rfl; exact BK2.out) Tryd.underlying29 rfl (by kernel_rfl)) rfl ?_
 exact ⟨q, rfl, QS.out, ((((((((QA.out.put (fun _ h => h.1) 0 (.int .i64 q.v)).put (fun _ h => h.1) 1 (.int .i64 q.p)).put (fun _ h => h.1) 2 (.int .i64 q.pv)).put (fun _ h => h.1) 3 (.int .i64 q.pn)).put (fun _ h => h.1) 4 (.slice q.A5 q.bys.length q.c5)).put (fun _ h => h.1) 5 (.slice q.A6 q.ts.length q.c6)).put (fun _ h => h.1) 6 (.slice q.Am q.ms.length q.cm)).put (fun _ h => h.1) 7 (.int .i64 q.b)).ok, ((((((((HB.out.setCell (p := ⟨g2, 0, none⟩) GE2.out (.int .i64 q.v)).setCell (p := ⟨g2, 1, none⟩) GE2.out (.int .i64 q.p)).setCell (p := ⟨g2, 2, none⟩) GE2.out (.int .i64 q.pv)).setCell (p := ⟨g2, 3, none⟩) GE2.out (.int .i64 q.pn)).setCell (p := ⟨g2, 4, none⟩) GE2.out (.slice q.A5 q.bys.length q.c5)).setCell (p := ⟨g2, 5, none⟩) GE2.out (.slice q.A6 q.ts.length q.c6)).setCell (p := ⟨g2, 6, none⟩) GE2.out (.slice q.Am q.ms.length q.cm)).setCell (p := ⟨g2, 7, none⟩) GE2.out (.int .i64 q.b))⟩
/-- How many servers are drawn. -/
theorem drawN_c {w0 w : World} {g : Nat} (hI : Cs w0 w g) (hB : Below w0.heap.size w0 w) : Calls Tryd.prog 27 #[.pointer (some ⟨g, 0, none⟩)] w fun e w' => ∃ r : Int, e = .returned (.int .i64 r) ∧ -1 ≤ r ∧ r ≤ 8 ∧ Cs w0 w' g ∧ Below w0.heap.size w0 w' ∧ KeepBut w w' g none := by
 obtain ⟨l, i, x, a, b, c, d⟩ := hI
 have key : ∃ r i' h', spec_l15DrawN.f l i x = some (r, i', h') ∧ -1 ≤ r ∧ r ≤ 8 ∧ 0 ≤ i' ∧ i' ≤ l.length := by
  obtain ⟨r, i', h', e, i0, i1⟩ := once_some l a i x 14 b c
  obtain ⟨n, i2, h2, e2, n0, n1, _, j0, j1⟩ := below_some l a i' h' 6 i0 i1
  have n2 := n1 (by decide)
  simp only [spec_l15DrawN.f, e, e2, Option.bind_some]
  cases r with
  | false => exact ⟨4, i', h', (by simp), (by omega), (by omega), i0, i1⟩
  | true =>
   have hn : n = 0 ∨ n = 1 ∨ n = 2 ∨ n = 3 ∨ n = 4 ∨ n = 5 := by omega
   rcases hn with rfl | rfl | rfl | rfl | rfl | rfl <;> exact ⟨_, i2, h2, rfl, (by decide), (by decide), j0, j1⟩
 obtain ⟨r, i', h', e, r0, r1, i0, i1⟩ := key
 refine (spec_l15DrawN.calls g l i x r i' h' w0 w d hB e).mono ?_
 rintro e w' ⟨rfl, h1, h2, h3⟩
 exact ⟨r, rfl, r0, r1, ⟨l, i', h', a, i0, i1, h1⟩, h2, h3⟩
structure Dx (w1 W : World) (g g2 g5 : Nat) (q : Bq) : Prop where
 cs_ : Cs w1 W g
 bel : Below w1.heap.size w1 W
 b2 : W.heap[g2]? = some (.cells #[.int .i64 0, .int .i64 0, .int .i64 0, .int .i64 0, .slice none 0 0, .slice none 0 0, .slice none 0 0, .int .i64 0] 29 (0, 0))
 b5 : W.heap[g5]? = some (.cells #[.int .i64 q.v, .int .i64 q.p, .int .i64 q.pv, .int .i64 q.pn, .slice q.A5 q.bys.length q.c5, .slice q.A6 q.ts.length q.c6, .slice q.Am q.ms.length q.cm, .int .i64 q.b] 29 (0, 0))
 ap : q.ap W (fun k => k ≠ g2 ∧ k ≠ g)
 l2 : g2 < w1.heap.size
 n5 : g5 ≠ g
theorem Dx.below {w1 W W1 : World} {g g2 g5 : Nat} {q : Bq} (h : Dx w1 W g g2 g5 q) (hb : Below W.heap.size W W1) : Dx w1 W1 g g2 g5 q := ⟨h.cs_.below hb, below_weaken h.bel h.bel.size hb, blk_below h.b2 hb, blk_below h.b5 hb, h.ap.below hb, h.l2, h.n5⟩
theorem Dx.keep {w1 W W1 : World} {g g2 g5 : Nat} {q : Bq} (h : Dx w1 W g g2 g5 q) (hi : Cs w1 W1 g) (hb : Below w1.heap.size w1 W1) (hk : KeepBut W W1 g none) : Dx w1 W1 g g2 g5 q :=
 ⟨hi, hb, hk.blk h.b2 (by have := h.l2; have := hi.ge; omega) (by simp), hk.blk h.b5 h.n5 (by simp), h.ap.keep hk (fun _ h => h.2), h.l2, h.n5⟩
set_option maxHeartbeats 4000000 in
set_option maxRecDepth 100000 in
theorem DrawBlockOk_c (A0 : Option Addr) (c0 : Nat) (l0 : List Int) (w : World) (hl : (l0.length : Int) < 9223372036854775807) (hr0 : Kd.C (Kd.int .u8) w A0 l0.length l0) (hc0 : l0.length ≤ c0) :
  Calls Tryd.prog 9 #[.slice A0 l0.length c0] w fun e w' => ∃ (q : Bq) (n : Int), e = .returned (.tuple #[.agg #[.int .i64 q.v, .int .i64 q.p, .int .i64 q.pv, .int .i64 q.pn, .slice q.A5 q.bys.length q.c5, .slice q.A6 q.ts.length q.c6, .slice q.Am q.ms.length q.cm, .int .i64 q.b], .int .i64 n]) ∧ q.small ∧ -1 ≤ n ∧ n ≤ 8 ∧ q.ok w' ∧ Below w.heap.size w w' := by
 have eg1 : ∀ args w, (callFunc 17 args).run Tryd.prog w = .ok (.enter 17 args) w := enters_ Tryd.func17 (by kernel_rfl) rfl
 have eg2 : ∀ args w, (callFunc 18 args).run Tryd.prog w = .ok (.enter 18 args) w := enters_ Tryd.func18 (by kernel_rfl) rfl
 have eg3 : ∀ args w, (callFunc 27 args).run Tryd.prog w = .ok (.enter 27 args) w := enters_ Tryd.func27 (by kernel_rfl) rfl
 have hu29 := Tryd.underlying29
 have HR := Aside0.mk hr0
 have HC := Aside0.mk hc0
 have HL := Aside0.mk hl
 clear hr0 hc0 hl
 go_enter Tryd.func9, Tryd.ntmps9
 go_wp2_with (first | ((with_reducible refine gate_dst (N := 2) rfl ?_); refine box_event ?hg (N := 2) ?hd (cs := #[.int .i64 0, .int .i64 0, .int .i64 0, .int .i64 0, .slice none 0 0, .slice none 0 0, .slice none 0 0, .int .i64 0]) (t := 29) ?hr ?_; (case hd => rfl); (case hg => rfl); (case hr => first | (go_simp; done) | (go_simp; rfl)); intro g2 hg w1 hbox hb; have BK2 := Aside0.mk hbox; have HB := Aside0.mk hb; have GE2 := Aside0.mk (Nat.le_of_eq hg.symm); clear hg hbox hb))
 have L1 := Aside0.mk (blk_lt BK2.out)
 refine (new_c A0 c0 l0 w1 HL.out (Kd.C_below HR.out HB.out) HC.out).mono ?_
 rintro e w2 ⟨g, rfl, hi, hb⟩
 have HI := Aside0.mk hi
 have H2 := Aside0.mk hb
 have L2 := Aside0.mk (show g2 < w2.heap.size from Nat.lt_of_lt_of_le (blk_lt BK2.out) hb.size)
 clear hi hb
 go_wp2_with fail
 refine (draw_c HI.out H2.out).mono ?_
 rintro e w3 ⟨q, rfl, hs, ha, hk, hi, hb, hkb⟩
 have QS := Aside0.mk hs
 go_wp2_with fail
 have hA_ := below_alloc (Below.refl w3.heap.size w3) (.cells #[.int .i64 q.v, .int .i64 q.p, .int .i64 q.pv, .int .i64 q.pn, .slice q.A5 q.bys.length q.c5, .slice q.A6 q.ts.length q.c6, .slice q.Am q.ms.length q.cm, .int .i64 q.b] 29)
 have DX : Aside0 (Dx w1 (w3.alloc (.cells #[.int .i64 q.v, .int .i64 q.p, .int .i64 q.pv, .int .i64 q.pn, .slice q.A5 q.bys.length q.c5, .slice q.A6 q.ts.length q.c6, .slice q.Am q.ms.length q.cm, .int .i64 q.b] 29)) g g2 w3.heap.size q) := ⟨⟨hi.below hA_, below_weaken hb hb.size hA_, blk_below (blk_below BK2.out hb) hA_, heap_alloc_new w3 _, (ha g2 _ L2.out (blk_below BK2.out hb)).below hA_, L1.out, Nat.ne_of_gt hi.lt⟩⟩
 clear hA_ HI H2 hs ha hk hi hb hkb BK2
 generalize w3.alloc (.cells #[.int .i64 q.v, .int .i64 q.p, .int .i64 q.pv, .int .i64 q.pn, .slice q.A5 q.bys.length q.c5, .slice q.A6 q.ts.length q.c6, .slice q.Am q.ms.length q.cm, .int .i64 q.b] 29) = wr at DX ⊢
 generalize w3.heap.size = g5 at DX ⊢

 have n1_ := Aside0.mk (DX.out.below (below_drew (Below.refl _ _)))
 clear DX
 have DX := n1_
 clear n1_
 refine start_ (n := 5) (S := fun w' => w'.cell? ⟨g5, 0, none⟩ = some (.int .i64 q.v) ∧ w'.cell? ⟨g5, 1, none⟩ = some (.int .i64 q.p) ∧ w'.cell? ⟨g5, 2, none⟩ = some (.int .i64 q.pv) ∧ w'.cell? ⟨g5, 3, none⟩ = some (.int .i64 q.pn) ∧ w'.cell? ⟨g5, 4, none⟩ = some (.slice q.A5 q.bys.length q.c5) ∧ w'.cell? ⟨g5, 5, none⟩ = some (.slice q.A6 q.ts.length q.c6) ∧ w'.cell? ⟨g5, 6, none⟩ = some (.slice q.Am q.ms.length q.cm) ∧ w'.cell? ⟨g5, 7, none⟩ = some (.int .i64 q.b)) (ds := [3]) #[false, false, false, false, false] (by kernel_rfl) rfl rfl ⟨(blk_cell DX.out.b5 0).trans rfl, (blk_cell DX.out.b5 1).trans rfl, (blk_cell DX.out.b5 2).trans rfl, (blk_cell DX.out.b5 3).trans rfl, (blk_cell DX.out.b5 4).trans rfl, (blk_cell DX.out.b5 5).trans rfl, (blk_cell DX.out.b5 6).trans rfl, (blk_cell DX.out.b5 7).trans rfl⟩ (fun hHeld => ?_)
 generalize wr.drew = wd2 at DX hHeld ⊢
 refine pure_ (i := 1) (N := some 11) (v := ?_) (a' := ?_) #[false, true, false, false, false] rfl rfl (by kernel_rfl) (fun _ _ _ h => h) (Or.inl ⟨(by rfl), ?_⟩) ?_ ?_
 rotate_left
 ·intro w'
  go_simp
  with_reducible rfl
 rotate_left
 ·simp only [sp_]
  rfl
 refine take_ (i := 0) (N := some 10) (v := ?_) (a' := ?_) #[true, true, false, false, false] rfl rfl (by kernel_rfl) (fun _ _ _ h => h) (Or.inl ⟨(by rfl), ?_⟩) hHeld ?_ ?_
 rotate_left
 ·rintro w' ⟨s0, s1, s2, s3, s4, s5, s6, s7⟩
  go_simp
  with_reducible rfl
 rotate_left
 ·simp only [sp_]
  rfl
 refine one_ (i := 2) (N := some 12) #[true, true, true, false, false] rfl rfl (by kernel_rfl) (by decide) (fun K hK => ?_)
 refine goes_ Tryd.func27 (by kernel_rfl) rfl #[.pointer (some ⟨g, 0, none⟩)] (by rfl) rfl rfl Z18 ?_
 with_reducible refine (drawN_c DX.out.cs_ DX.out.bel).mono ?_
 rintro e wq2 ⟨n, rfl, n0, n1, hi, hb, hk⟩
 refine ⟨_, rfl, ?_⟩
 have HN := Aside0.mk (And.intro n0 n1)
 have n1_ := Aside0.mk (DX.out.keep hi hb hk)
 clear DX
 have DX := n1_
 clear n1_
 clear hi hb hk n0 n1
 refine hK.out _ _ ⟨(blk_cell DX.out.b5 0).trans rfl, (blk_cell DX.out.b5 1).trans rfl, (blk_cell DX.out.b5 2).trans rfl, (blk_cell DX.out.b5 3).trans rfl, (blk_cell DX.out.b5 4).trans rfl, (blk_cell DX.out.b5 5).trans rfl, (blk_cell DX.out.b5 6).trans rfl, (blk_cell DX.out.b5 7).trans rfl⟩ (fun hHeld => ?_)
 clear hK K
 refine norm_ (a' := ?_) ?_ ?_
 rotate_left
 ·show Act.put _ (some 12) _ = _
  simp only [sp_]
  rfl
 refine last_ (i := 3) (N := none) #[true, true, true, true, false] rfl rfl (by kernel_rfl) (by decide) (fun K hK => ?_)
 have hs0 := (blk_cell DX.out.b2 0).trans rfl
 have hs1 := (blk_cell DX.out.b2 1).trans rfl
 have hs2 := (blk_cell DX.out.b2 2).trans rfl
 have hs3 := (blk_cell DX.out.b2 3).trans rfl
 have hs4 := (blk_cell DX.out.b2 4).trans rfl
 have hs5 := (blk_cell DX.out.b2 5).trans rfl
 have hs6 := (blk_cell DX.out.b2 6).trans rfl
 have hs7 := (blk_cell DX.out.b2 7).trans rfl
 have hsf0 := blk_frozen DX.out.b2 0
 have hsf1 := blk_frozen DX.out.b2 1
 have hsf2 := blk_frozen DX.out.b2 2
 have hsf3 := blk_frozen DX.out.b2 3
 have hsf4 := blk_frozen DX.out.b2 4
 have hsf5 := blk_frozen DX.out.b2 5
 have hsf6 := blk_frozen DX.out.b2 6
 have hsf7 := blk_frozen DX.out.b2 7
 refine skip_ (w1 := ?_) (by rfl) rfl ?_ ?_
 rotate_left
 ·go_simp
  rfl
 refine hK.out _ _ ?_
 clear hK K
 refine pure_ (i := 4) (N := some 3) (v := ?_) (a' := ?_) #[true, true, true, true, true] rfl rfl (by kernel_rfl) (fun _ _ _ h => h) (Or.inl ⟨(by rfl), ?_⟩) ?_ ?_
 rotate_left
 ·intro w'
  go_simp
  with_reducible rfl
 rotate_left
 ·simp only [sp_]
  rfl
 refine done_ (by kernel_rfl) ?_
 try go_wp2
 refine bodyPost_ret (results_ct rfl _ _ g2 29 #[.int .i64 q.v, .int .i64 q.p, .int .i64 q.pv, .int .i64 q.pn, .slice q.A5 q.bys.length q.c5, .slice q.A6 q.ts.length q.c6, .slice q.Am q.ms.length q.cm, .int .i64 q.b] (0, 0) _ rfl (by refine blk_put (cs := #[.int .i64 q.v, .int .i64 q.p, .int .i64 q.pv, .int .i64 q.pn, .slice q.A5 q.bys.length q.c5, .slice q.A6 q.ts.length q.c6, .slice q.Am q.ms.length q.cm, .int .i64 0]) ?_ 7 _ rfl; refine blk_put (cs := #[.int .i64 q.v, .int .i64 q.p, .int .i64 q.pv, .int .i64 q.pn, .slice q.A5 q.bys.length q.c5, .slice q.A6 q.ts.length q.c6, .slice none 0 0, .int .i64 0]) ?_ 6 _ rfl; refine blk_put (cs := #[.int .i64 q.v, .int .i64 q.p, .int .i64 q.pv, .int .i64 q.pn, .slice q.A5 q.bys.length q.c5, .slice none 0 0, .slice none 0 0, .int .i64 0]) ?_ 5 _ rfl; refine blk_put (cs := #[.int .i64 q.v, .int .i64 q.p, .int .i64 q.pv, .int .i64 q.pn, .slice none 0 0, .slice none 0 0, .slice none 0 0, .int .i64 0]) ?_ 4 _ rfl; refine blk_put (cs := #[.int .i64 q.v, .int .i64 q.p, .int .i64 q.pv, .int .i64 0, .slice none 0 0, .slice none 0 0, .slice none 0 0, .int .i64 0]) ?_ 3 _ rfl; refine blk_put (cs := #[.int .i64 q.v, .int .i64 q.p, .int .i64 0, .int .i64 0, .slice none 0 0, .slice none 0 0, .slice none 0 0, .int .i64 0]) ?_ 2 _ rfl; refine blk_put (cs := #[.int .i64 q.v, .int .i64 0, .int .i64 0, .int .i64 0, .slice none 0 0, .slice none 0 0, .slice none 0 0, .int .i64 0]) ?_ 1 _ rfl; refine blk_put (cs := #[.int .i64 0, .int .i64 0, .int .i64 0, .int .i64 0, .slice none 0 0, .slice none 0 0, .slice none 0 0, .int .i64 0]) ?_ 0 _ rfl; exact DX.out.b2) Tryd.underlying29 rfl (by kernel_rfl)) rfl ?_
 exact ⟨q, n, rfl, QS.out, HN.out.1, HN.out.2, ((((((((DX.out.ap.put (fun _ h => h.1) 0 (.int .i64 q.v)).put (fun _ h => h.1) 1 (.int .i64 q.p)).put (fun _ h => h.1) 2 (.int .i64 q.pv)).put (fun _ h => h.1) 3 (.int .i64 q.pn)).put (fun _ h => h.1) 4 (.slice q.A5 q.bys.length q.c5)).put (fun _ h => h.1) 5 (.slice q.A6 q.ts.length q.c6)).put (fun _ h => h.1) 6 (.slice q.Am q.ms.length q.cm)).put (fun _ h => h.1) 7 (.int .i64 q.b)).ok, (((((((((below_weaken HB.out HB.out.size DX.out.bel).setCell (p := ⟨g2, 0, none⟩) GE2.out (.int .i64 q.v)).setCell (p := ⟨g2, 1, none⟩) GE2.out (.int .i64 q.p)).setCell (p := ⟨g2, 2, none⟩) GE2.out (.int .i64 q.pv)).setCell (p := ⟨g2, 3, none⟩) GE2.out (.int .i64 q.pn)).setCell (p := ⟨g2, 4, none⟩) GE2.out (.slice q.A5 q.bys.length q.c5)).setCell (p := ⟨g2, 5, none⟩) GE2.out (.slice q.A6 q.ts.length q.c6)).setCell (p := ⟨g2, 6, none⟩) GE2.out (.slice q.Am q.ms.length q.cm)).setCell (p := ⟨g2, 7, none⟩) GE2.out (.int .i64 q.b))⟩
set_option maxHeartbeats 4000000 in
set_option maxRecDepth 100000 in
theorem DrawReadBlock_c (A0 : Option Addr) (c0 : Nat) (l0 : List Int) (w : World) (hl : (l0.length : Int) < 9223372036854775807) (hr0 : Kd.C (Kd.int .u8) w A0 l0.length l0) (hc0 : l0.length ≤ c0) (hS : ∀ q : Bq, q.small → ∃ k r, spec_ShowBlock.f k q.v q.p q.pv q.pn q.bys q.ts q.ms q.b = some r ∧ r.size ≤ 1000000000) :
  Calls Tryd.prog 7 #[.slice A0 l0.length c0] w fun e w' => ∃ s : ByteArray, e = .returned (.string s) ∧ s.size ≤ 1000000003 ∧ Below w.heap.size w w' := by
 have eg1 : ∀ args w, (callFunc 17 args).run Tryd.prog w = .ok (.enter 17 args) w := enters_ Tryd.func17 (by kernel_rfl) rfl
 have eg2 : ∀ args w, (callFunc 18 args).run Tryd.prog w = .ok (.enter 18 args) w := enters_ Tryd.func18 (by kernel_rfl) rfl
 have eg3 : ∀ args w, (callFunc 12 args).run Tryd.prog w = .ok (.enter 12 args) w := enters_ Tryd.func12 (by kernel_rfl) rfl
 have eg4 : ∀ args w, (callFunc 22 args).run Tryd.prog w = .ok (.enter 22 args) w := enters_ Tryd.func22 (by kernel_rfl) rfl
 have eg5 : ∀ args w, (callFunc 23 args).run Tryd.prog w = .ok (.enter 23 args) w := enters_ Tryd.func23 (by kernel_rfl) rfl
 have HR := Aside0.mk hr0
 have HC := Aside0.mk hc0
 have HL := Aside0.mk hl
 clear hr0 hc0 hl
 go_enter Tryd.func7, Tryd.ntmps7
 go_wp2_with fail
 refine (new_c A0 c0 l0 w HL.out HR.out HC.out).mono ?_
 rintro e w2 ⟨g, rfl, hi, hb⟩
 have HI := Aside0.mk hi
 have HB := Aside0.mk hb
 clear hi hb
 go_wp2_with fail
 refine (draw_c HI.out HB.out).mono ?_
 rintro e w3 ⟨q, rfl, hs, ha, hk, hi, hb, hkb⟩
 clear HI HB ha hkb
 have HI := Aside0.mk hi
 have HB := Aside0.mk hb
 have QK := Aside0.mk hk
 have QS := Aside0.mk hs
 clear hi hb hk hs
 obtain ⟨k, s, hf, hz⟩ := hS q QS.out
 go_wp2_with fail
 refine (spec_ShowBlock.calls k q.v q.p q.pv q.pn q.A5 q.c5 q.bys q.A6 q.c6 q.ts q.Am q.cm q.ms q.b s w3 QK.out.h5 QK.out.l5 QK.out.h6 QK.out.l6 QK.out.hm QK.out.lm hf).mono ?_
 rintro e w4 ⟨rfl, hb⟩
 have HZ := Aside0.mk hz
 have n1_ := Aside0.mk (HI.out.below hb)
 clear HI
 have HI := n1_
 clear n1_
 have n1_ := Aside0.mk (below_weaken HB.out HB.out.size hb)
 clear HB
 have HB := n1_
 clear n1_
 clear hb hz hf QK
 go_wp2_with fail
 refine (once_c 2 HI.out HB.out).mono ?_
 rintro e w5 ⟨r, rfl, hi, hb, hk⟩
 clear HI HB hk
 have HI := Aside0.mk hi
 have HB := Aside0.mk hb
 clear hi hb
 go_upto_if 11 with (fail)
 go_cut [4] (fun v4 wc => ∃ s : ByteArray, v4 = .string s ∧ Aside0 (s.size ≤ 1000000003 ∧ Below w.heap.size w wc))
 case first =>
  cases r with
  | false =>
   go_wp2
   go_meet
   case rel => exact ⟨s, rfl, ⟨(by have := HZ.out; omega), HB.out⟩⟩
  | true =>
   go_wp2_with fail
   refine (spec_l1Bend.calls g s _ w w5 HI.out HB.out (by have := HZ.out; omega) (by decide)).mono ?_
   rintro e w6 ⟨r, rfl, hr, hi, hb, hk⟩
   have HE := Aside0.mk (And.intro hr hb)
   clear hr hi hb hk
   go_wp2
   go_meet
   case rel => exact ⟨r, rfl, ⟨(by have := HZ.out; have := HE.out.1; omega), HE.out.2⟩⟩
 case rest =>
  obtain ⟨s, rfl, HS⟩ := hcut
  go_wp2
  go_ret
  exact ⟨s, rfl, HS.out.1, HS.out.2⟩
end Go.Proofs.YtokhjhkkncbjeaaDoor.PFnBlocks
