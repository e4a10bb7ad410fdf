import Derived.Test.YtokhjhkkncbjeaaDoorPFnBlocksx93
namespace Go.Proofs.YtokhjhkkncbjeaaDoor.PFnBlocks
open Go.RowKit Go.Proofs.YtokhjhkkncbjeaaDoorW.PrintWords Go.Proofs.YtokhjhkkncbjeaaDoorW.PrintLast Go.Proofs.YtokhjhkkncbjeaaDoorW.PrintMore
attribute [local go_sem] max2_int min2_int max_two min_two max_three min_three max_four min_four
attribute [local go_sem high] str_gtr str_leq str_geq
set_option linter.unusedVariables false
set_option linter.unusedSimpArgs false
theorem voted_c (i : Int) (h0 : 0 ≤ i) (h1 : i < 4) (w : World) : Calls Tryd.prog 65 #[.int .i64 i, .int .i64 2, .int .i64 5] w fun e w' => ∃ v : S86, e = .returned (.agg #[.int .i64 v.f0, .int .i64 v.f1, .int .i64 v.f2, .int .i64 v.f3]) ∧ VT v ∧ Below w.heap.size w w' := by
 have : ∃ r, spec_l15Voted.f 100 i 2 5 = some r ∧ (spec_VoteOk.f 100 r.1 r.2.1 r.2.2.1 r.2.2.2 4).isSome = true := by
  have h : ((spec_l15Voted.f 100 i 2 5).bind fun r => if (spec_VoteOk.f 100 r.1 r.2.1 r.2.2.1 r.2.2.2 4).isSome = true then some r else none).isSome = true := by
   have ha : i = 0 ∨ i = 1 ∨ i = 2 ∨ i = 3 := by omega
   rcases ha with rfl | rfl | rfl | rfl <;> decide +kernel
  obtain ⟨r, h⟩ := Option.isSome_iff_exists.1 h
  obtain ⟨r', h1, h2⟩ := Option.bind_eq_some_iff.1 h
  refine ⟨r', h1, ?_⟩
  split at h2
  ·assumption
  ·cases h2
 obtain ⟨⟨r1, r2, r3, r4⟩, h, hv⟩ := this
 refine (spec_l15Voted.calls 100 i 2 5 r1 r2 r3 r4 w h).mono ?_
 rintro e w' ⟨rfl, hb⟩
 exact ⟨⟨r1, r2, r3, r4⟩, rfl, hv, hb⟩
set_option maxHeartbeats 8000000 in
set_option maxRecDepth 100000 in
theorem proof_c {w0 w : World} {g : Nat} (hI : Cs w0 w g) (hB : Below w0.heap.size w0 w) : Calls Tryd.prog 44 #[.pointer (some ⟨g, 0, none⟩)] w fun e w' => ∃ (pv pn : Int) (A5 A6 : Option Addr) (n5 n6 c5 c6 : Nat), e = .returned (.agg #[.int .i64 pv, .int .i64 pn, .slice A5 n5 c5, .slice A6 n6 c6]) ∧ Pf w' (fun k => w.heap.size ≤ k) (.slice A5 n5 c5) (.slice A6 n6 c6) ∧ Cs w0 w' g ∧ Below w0.heap.size w0 w' ∧ KeepBut w w' g none := by
 have eg1 : ∀ args w, (callFunc 22 args).run Tryd.prog w = .ok (.enter 22 args) w := enters_ Tryd.func22 (by kernel_rfl) rfl
 have eg2 : ∀ args w, (callFunc 46 args).run Tryd.prog w = .ok (.enter 46 args) w := enters_ Tryd.func46 (by kernel_rfl) rfl
 have eg3 : ∀ args w, (callFunc 65 args).run Tryd.prog w = .ok (.enter 65 args) w := enters_ Tryd.func65 (by kernel_rfl) rfl
 have eg4 : ∀ args w, (callFunc 66 args).run Tryd.prog w = .ok (.enter 66 args) w := enters_ Tryd.func66 (by kernel_rfl) rfl
 have hu26 := Tryd.underlying26
 have HG := Aside0.mk (And.intro hI.lt hB.size)
 have HI := Aside0.mk hI
 have HB := Aside0.mk hB
 clear hI hB
 go_enter Tryd.func44, Tryd.ntmps44
 go_wp2_with (first | ((with_reducible refine gate_dst (N := 2) rfl ?_); refine box_event ?hg (N := 2) ?hd (cs := #[.int .i64 0, .int .i64 0, .slice none 0 0, .slice none 0 0]) (t := 26) ?hr ?_; (case hd => rfl); (case hg => rfl); (case hr => first | (go_simp; done) | (go_simp; rfl)); intro g2 hg w1 hbox hb; have n1_ := Aside0.mk (HI.out.below hb); have n2_ := Aside0.mk (below_weaken HB.out HB.out.size hb); have HK := Aside0.mk (KeepBut.of_below hb g none); have BK2 := Aside0.mk hbox; have GE2 := Aside0.mk (Nat.le_of_eq hg.symm); clear HI HB hg hbox hb; have HI := n1_; have HB := n2_; clear n1_ n2_))
 refine (once_c 4 HI.out HB.out).mono ?_
 rintro e wz ⟨o, rfl, hi, hb, hk⟩
 have n1_ := Aside0.mk (hk.blk BK2.out (by have := HG.out.1; have := GE2.out; omega) (by simp))
 have n2_ := Aside0.mk (KeepBut.trans HK.out hk (.inl rfl))
 clear BK2 HK HI HB hk
 have BK2 := n1_
 have HK := n2_
 have HI := Aside0.mk hi
 have HB := Aside0.mk hb
 clear n1_ n2_ hi hb
 have LZ := Aside0.mk (show g2 < wz.heap.size ∧ g2 ≠ g from ⟨blk_lt BK2.out, (by have := HG.out.1; have := GE2.out; omega)⟩)
 cases o
 ·have G := Aside0.mk (G2.start0 k86 86 HI.out HB.out)
  go_wp2_with (first | ((with_reducible refine gate_dst (N := 11) rfl ?_); refine Kd.R_lit k86 wz.heap.size 86 ?hg (N := 11) ?hd (xs := ([] : List S86)) (inner := []) (ok := fun k_ => some k_ ≠ ((Value.slice none 0 0) : Value).ownBlock) (okp := fun _ => False) ?hr ?hp (fun _ h => h.elim) (G.out.swap.fresh _ (Nat.le_refl _)) (Below.refl _ _) G.out.swap.size (by simp) ?_; (case hd => rfl); (case hg => rfl); (case hr => first | (go_simp; done) | (go_simp; rfl)); (case hp => exact Reps.none _ _); intro v1 w1x h1 hb hg hat; have n1_ := Aside0.mk (G.out.swap.app h1 hb hg (.inr hat)); replace n1_ := Aside0.mk n1_.out.swap; clear G h1 hb hg hat; have G := n1_; clear n1_))
  go_loopg [3, 4] 6 (fun kq v3 v4 w' => ∃ (i : Int) (l : List S86), v4 = .int .i64 i ∧ Aside0 (0 ≤ i ∧ i ≤ 4 ∧ 4 - i < kq ∧ (l.length : Int) = i ∧ ∀ v ∈ l, VT v) ∧ Aside0 (G2 k86 86 w0 wz w' g (.slice none 0 0) [] v3 l))
  case atStart => exact ⟨0, [], rfl, ⟨(by decide), (by decide), (by decide), rfl, fun _ h => absurd h (by simp)⟩, G⟩
  case round =>
   clear G
   obtain ⟨i, l, rfl, HN, G⟩ := hrel
   by_cases c1 : i < 4
   ·have c1b : decide (i < 4) = true := decide_eq_true c1
    have HP := Aside0.mk c1
    clear c1
    go_wp2_with fail
    refine (voted_c i HN.out.1 HP.out _).mono ?_
    rintro e wv ⟨v, rfl, hvt, hb⟩
    have VV := Aside0.mk hvt
    clear hvt
    have n1_ := Aside0.mk (G.out.below hb)
    clear G
    have G := n1_
    clear n1_
    clear hb
    go_wp2_with (first | ((with_reducible refine gate_builtin (b := .append) (xs := #[.tmp 16, .tmp 19]) rfl ?_); at_builtin; refine Kd.R_append k86 wz.heap.size rfl (.tmp 16) (.tmp 19) 89 86 (.agg #[.int .i64 0, .int .i64 0, .int .i64 0, .int .i64 0]) 32 rfl Tryd.underlying89 info86 rfl (by decide) (by omega) _ l v [.int .i64 v.f0, .int .i64 v.f1, .int .i64 v.f2, .int .i64 v.f3] _ (fun _ => False) rfl rfl ?aP (fun _ hk => hk.elim) G.out.swap.fresh G.out.swap.1 (Below.refl _ _) G.out.size ?aL ?_; (case aP => exact k86_mkM _ _ _ v); (case aL => have := HN.out; omega); intro v1 w1x h1 hb hg hat; have n1_ := Aside0.mk (G.out.swap.app h1 hb hg hat).swap; clear G h1 hb hg hat; have G := n1_; clear n1_))
    have e1 := Aside0.mk (show wrap64 (i + 1) = i + 1 from (by have := HN.out; rw [w64 (by omega) (by omega)]))
    go_roundg (gk - 1)
    case measure => have := HN.out; have := HP.out; omega
    case rel => exact ⟨_, _, rfl, ⟨(by rw [e1.out]; have := HN.out.1; omega), (by rw [e1.out]; have := HP.out; omega), (by rw [e1.out]; have := HN.out.2.2.1; have := HP.out; omega), (by rw [e1.out, List.length_append]; simp only [List.length_cons, List.length_nil]; have := HN.out.2.2.2.1; omega), fun x_ hx_ => by rcases List.mem_append.1 hx_ with h_ | h_; exact HN.out.2.2.2.2 x_ h_; rw [List.mem_singleton.1 h_]; exact VV.out⟩, G⟩
   ·have c1b : decide (i < 4) = false := decide_eq_false c1
    have L4 := Aside0.mk (show l.length = 4 from (by have := HN.out; omega))
    clear c1
    go_wp2_with fail
    refine (below_c 4 G.out.cs G.out.bel).mono ?_
    rintro e wk ⟨k, rfl, r0_, r1_, hi, hb, hk⟩
    have RK := Aside0.mk (And.intro r0_ (r1_ (by decide)))
    have n1_ := Aside0.mk (G.out.call hi hb hk)
    clear G
    have G := n1_
    clear n1_
    clear hi hb hk r0_ r1_
    obtain ⟨Al, cl, hv_⟩ := Kd.R_slice G.out.2.1
    subst hv_
    have HC := Aside0.mk (Kd.R_reads' G.out.2.1).2.1
    obtain ⟨iy, hiy, _, hsz, _⟩ := info_parts info86
    have hcut := cut_to (P := Tryd.prog) 89 86 .i64 Tryd.underlying89 hiy Al l.length cl k RK.out.1 (by have := RK.out.2; have := L4.out; omega) HC.out
    have TL := Aside0.mk (show (l.take k.toNat).length = k.toNat ∧ k.toNat ≤ l.length from (by have := RK.out; have := L4.out; rw [List.length_take]; omega))
    go_wp2_with (first | ((with_reducible refine gate_dst (N := 24) rfl ?_); refine Kd.R_lit k86 wz.heap.size 86 ?hg (N := 24) ?hd (xs := ([] : List S86)) (inner := []) (ok := fun k_ => some k_ ≠ (.slice Al l.length cl : Value).ownBlock) (okp := fun _ => False) ?hr ?hp (fun _ h => h.elim) (G.out.fresh _ (Nat.le_refl _)) (Below.refl _ _) G.out.size (by simp) ?_; (case hd => rfl); (case hg => rfl); (case hr => first | (go_simp; done) | (go_simp; rfl)); (case hp => exact Reps.none _ _); intro v1 w1x h1 hb hg hat; have n1_ := Aside0.mk (G.out.app h1 hb hg (.inr hat)); clear G h1 hb hg hat; have G := n1_; clear n1_) | ((with_reducible refine gate_builtin (b := .append) (xs := #[.tmp 24, .tmp 27]) rfl ?_); at_builtin; refine Kd.R_append_rows k86 wz.heap.size rfl (.tmp 24) (.tmp 27) 89 86 (.agg #[.int .i64 0, .int .i64 0, .int .i64 0, .int .i64 0]) 32 rfl Tryd.underlying89 info86 rfl (by decide) (by omega) _ _ (l.take k.toNat) _ _ _ _ (fun _ => False) rfl rfl G.out.1 ?aR (fun _ _ h => h) (fun _ h => h.elim) G.out.fresh (Below.refl _ _) G.out.size ?aL ?_; (case aR => (have h_ := Kd.C_take (m := k.toNat) (Kd.R_reads' G.out.2.1).2.2 TL.out.2; rw [TL.out.1] at h_; exact h_)); (case aL => simp only [List.length_nil]; have := L4.out; have := TL.out.2; omega); intro v1 w1x h1 hb hg hat; have n1_ := Aside0.mk (G.out.app h1 hb hg hat); clear G h1 hb hg hat; have G := n1_; clear n1_))
    refine (below_c 2 G.out.cs G.out.bel).mono ?_
    rintro e wk2 ⟨r, rfl, r0_, r1_, hi, hb, hk⟩
    have RR := Aside0.mk (And.intro r0_ (r1_ (by decide)))
    have n1_ := Aside0.mk (G.out.call hi hb hk)
    clear G
    have G := n1_
    clear n1_
    clear hi hb hk r0_ r1_
    have ej := Aside0.mk (show wrap64 (k + r) = k + r from (by have := RK.out; have := RR.out; rw [w64 (by omega) (by omega)]))
    have hcut2 := cut_from (P := Tryd.prog) 89 86 .i64 Tryd.underlying89 hiy 4 hsz Al l.length cl (wrap64 (k + r)) (by have := ej.out; have := RK.out; have := RR.out; omega) (by have := ej.out; have := RK.out; have := RR.out; have := L4.out; omega)
    obtain ⟨A3, hA3⟩ : ∃ z_, z_ = (if cl = (wrap64 (k + r)).toNat then Al else Al.map (·.add ((wrap64 (k + r)).toNat * 4))) := ⟨_, rfl⟩
    obtain ⟨m3, hm3⟩ : ∃ z_, z_ = l.length - (wrap64 (k + r)).toNat := ⟨_, rfl⟩
    obtain ⟨c3, hc3⟩ : ∃ z_, z_ = cl - (wrap64 (k + r)).toNat := ⟨_, rfl⟩
    rw [← hA3, ← hm3, ← hc3] at hcut2
    have DL := Aside0.mk (And.intro (And.intro hA3 hm3) (show (wrap64 (k + r)).toNat ≤ l.length from (by have := ej.out; have := RK.out; have := RR.out; have := L4.out; omega)))
    clear hA3 hm3 hc3 hiy hsz hcut
    go_wp2_with (first | ((with_reducible refine gate_builtin (b := .append) (xs := #[.tmp 28, .tmp 34]) rfl ?_); at_builtin; refine Kd.R_append_rows k86 wz.heap.size rfl (.tmp 28) (.tmp 34) 89 86 (.agg #[.int .i64 0, .int .i64 0, .int .i64 0, .int .i64 0]) 32 rfl Tryd.underlying89 info86 rfl (by decide) (by omega) _ _ (l.drop (wrap64 (k + r)).toNat) _ _ _ _ (fun _ => False) rfl rfl G.out.1 ?aR (fun _ _ h => h) (fun _ h => h.elim) G.out.fresh (Below.refl _ _) G.out.size ?aL ?_; (case aR => (have h_ := Kd.C_drop (m := (wrap64 (k + r)).toNat) (Kd.R_reads' G.out.2.1).2.2 DL.out.2 HC.out; simp only [List.length_drop] at h_; rw [DL.out.1.1, DL.out.1.2]; exact h_)); (case aL => simp only [List.nil_append]; rw [TL.out.1]; have := L4.out; have := TL.out.2; have := DL.out.1.2; omega); intro v1 w1x h1 hb hg hat; have n1_ := Aside0.mk (G.out.app h1 hb hg hat); clear G h1 hb hg hat; have G := n1_; clear n1_))
    clear hcut2
    obtain ⟨Au, cu, hv_⟩ := Kd.R_slice G.out.1
    subst hv_
    refine (gath_c Au _ cu _ _ rfl (Kd.R_reads' G.out.1).2.2 (Kd.R_reads' G.out.1).2.1 (by simp only [List.nil_append, List.length_append, List.length_drop]; have := TL.out; have := L4.out; omega) (by simp only [List.nil_append, List.length_append, List.length_drop]; have := TL.out; have := L4.out; have := ej.out; have := RK.out; have := RR.out; omega) (fun v_ hv_ => by rw [List.nil_append] at hv_; rcases List.mem_append.1 hv_ with h_ | h_; exact HN.out.2.2.2.2 v_ (List.mem_of_mem_take h_); exact HN.out.2.2.2.2 v_ (List.mem_of_mem_drop h_))).mono ?_
    rintro e wg ⟨pv, pn, A5, A6, n5, n6, c5, c6, bys, ts, okb, rfl, h5, h6, hl1, hl2, hl3, hl4, hb⟩
    replace h5 := Kd.R_lower h5 G.out.size
    replace h6 := Kd.R_lower h6 G.out.size
    have BY := Aside0.mk (And.intro hl1 (And.intro hl2 (And.intro hl3 hl4)))
    have n1_ := Aside0.mk (G.out.below hb)
    clear G
    have G := n1_
    clear n1_
    clear hb hl1 hl2 hl3 hl4
    have R5 := Aside0.mk h5
    have R6 := Aside0.mk h6
    clear h5 h6
    go_upto_region 10 with (fail)
    have EX : Aside0 (Ex w0 w (wg.alloc (.cells #[.int .i64 pv, .int .i64 pn, .slice A5 n5 c5, .slice A6 n6 c6] 26)) g g2 wg.heap.size #[.int .i64 pv, .int .i64 pn, .slice A5 n5 c5, .slice A6 n6 c6] (.slice A5 n5 c5) (.slice A6 n6 c6) bys ts) := by
     have hA := below_alloc (Below.refl wg.heap.size wg) (.cells #[.int .i64 pv, .int .i64 pn, .slice A5 n5 c5, .slice A6 n6 c6] 26)
     refine ⟨⟨Kd.R_alloc (Kd.R_lower R5.out HK.out.1) _, Kd.R_alloc (Kd.R_lower R6.out HK.out.1) _, heap_alloc_new wg _, blk_below (G.out.blk BK2.out LZ.out.2) hA, G.out.cs.below hA, below_alloc G.out.bel _, HK.out.trans (keep_alloc G.out.2.2.2.2.1 _) (.inl rfl), HG.out.1, Nat.le_trans HK.out.1 G.out.size, GE2.out, ?_, HG.out.2⟩⟩
     have := LZ.out.1
     have := G.out.size
     omega
    clear G R5 R6 BK2
    generalize wg.alloc (.cells #[.int .i64 pv, .int .i64 pn, .slice A5 n5 c5, .slice A6 n6 c6] 26) = wx at EX ⊢
    generalize wg.heap.size = gp at EX ⊢
    go_cut [46] (fun v46 wc => ∃ b46 : Bool, v46 = .bool b46 ∧ Aside0 (b46 = true → 0 < bys.length) ∧ Aside0 (Ex w0 w wc g g2 gp #[.int .i64 pv, .int .i64 pn, .slice A5 n5 c5, .slice A6 n6 c6] (.slice A5 n5 c5) (.slice A6 n6 c6) bys ts))
    case first =>
     go_wp2_with fail
     refine (once_c 10 EX.out.cs_ EX.out.bel).mono ?_
     rintro e wo ⟨o2, rfl, hi, hb, hk⟩
     have n1_ := Aside0.mk (EX.out.keep hi hb hk)
     clear EX
     have EX := n1_
     clear n1_
     clear hi hb hk
     cases o2
     ·go_wp2
      go_meet
      case rel => exact ⟨false, rfl, ⟨fun h => absurd h (by decide)⟩, EX⟩
     ·have hs2 := (blk_cell EX.out.bp 2).trans rfl
      go_wp2
      go_meet
      case rel => exact ⟨decide (0 < n5), (by first | rfl | simp), ⟨fun h => by have h_ := (Kd.R_reads' EX.out.r5).1; have h2_ := of_decide_eq_true h; omega⟩, EX⟩
    case rest =>
     clear EX
     obtain ⟨b46, rfl, HB46, EX⟩ := hcut
     go_upto_if 46 with (fail)
     go_cut [5] (fun v5 wc => ∃ (pv : Int) (A5 A6 : Option Addr) (n5 n6 c5 c6 : Nat), v5 = .int .i64 k ∧ Aside0 (wc.heap[gp]? = some (.cells #[.int .i64 pv, .int .i64 pn, .slice A5 n5 c5, .slice A6 n6 c6] 26 (0, 0))) ∧ Aside0 (wc.heap[g2]? = some (.cells #[.int .i64 0, .int .i64 0, .slice none 0 0, .slice none 0 0] 26 (0, 0))) ∧ Aside0 (Fin w0 w wc g g2 (.slice A5 n5 c5) (.slice A6 n6 c6) (.slice none 0 0) []))
     case first =>
      cases b46
      ·go_wp2
       go_meet
       case rel => exact ⟨_, _, _, _, _, _, _, rfl, ⟨EX.out.bp⟩, ⟨EX.out.b2⟩, ⟨EX.out.fin EX.out.v5 BY.out.2.2.1 (by have := BY.out; omega) BY.out.2.2.2⟩⟩
      ·go_wp2_with fail
       refine (below_c 4 EX.out.cs_ EX.out.bel).mono ?_
       rintro e wy ⟨q, rfl, r0_, r1_, hi, hb, hk⟩
       have n1_ := Aside0.mk (EX.out.keep hi hb hk)
       clear EX
       have EX := n1_
       clear n1_
       clear hi hb hk
       replace r1_ := r1_ (by decide)
       have NB := Aside0.mk (HB46.out (by first | trivial | rfl))
       by_cases d0 : q = 0
       ·subst d0
        clear r0_ r1_
        go_wp2_with fail
        have n1_ := Aside0.mk (EX.out.below (below_drew (Below.refl _ _)))
        clear EX
        have EX := n1_
        clear n1_
        have HT := Aside0.mk (show 0 < ts.length from (by have := BY.out.1; have := NB.out; omega))
        obtain ⟨q6, c6b, hv, hx, hf, hset⟩ := EX.out.swap5.set5 0 HT.out
        injection hv with ha hn hc
        subst ha hn hc
        generalize ts.getD 0 0 = yt at hx
        have z0 : ((0 : Int) < (ts.length : Int)) = True := eq_true (by have := HT.out; omega)
        have z1 : (0 < ts.length) = True := eq_true HT.out
        refine start_ (n := 9) (S := fun w' => w'.cell? ⟨gp, 3, none⟩ = some (.slice (some ⟨q6, 0, none⟩) ts.length c6) ∧ w'.cell? ⟨q6, 0, none⟩ = some (.int .i64 yt)) (ds := [8]) (bA 9 0) (by kernel_rfl) rfl rfl ⟨(blk_cell EX.out.bp 3).trans rfl, hx⟩ (fun hHeld => ?_)
        generalize wy.drew = wd at EX hx hf hset hHeld ⊢
        refine pure_ (i := 0) (N := some 51) (v := ?_) (a' := ?_) (bA 9 1) rfl rfl (by kernel_rfl) (fun _ _ _ h => h) (Or.inl ⟨(by rfl), ?_⟩) ?_ ?_
        rotate_left
        ·intro w'
         go_simp
         with_reducible rfl
        rotate_left
        ·simp only [sp_]
         rfl
        refine pure_ (i := 2) (N := some 53) (v := ?_) (a' := ?_) (bA 9 5) rfl rfl (by kernel_rfl) (fun _ _ _ h => h) (Or.inl ⟨(by rfl), ?_⟩) ?_ ?_
        rotate_left
        ·intro w'
         go_simp
         with_reducible rfl
        rotate_left
        ·simp only [sp_]
         rfl
        refine take_ (i := 1) (N := some 52) (v := ?_) (a' := ?_) (bA 9 7) rfl rfl (by kernel_rfl) (fun _ _ _ h => h) (Or.inl ⟨(by rfl), ?_⟩) hHeld ?_ ?_
        rotate_left
        ·rintro w' ⟨s0, s1⟩
         go_simp
         with_reducible rfl
        rotate_left
        ·simp only [sp_]
         rfl
        refine take_ (i := 3) (N := some 54) (v := ?_) (a' := ?_) (bA 9 15) rfl rfl (by kernel_rfl) (fun _ _ _ h => h) (Or.inl ⟨(by rfl), ?_⟩) hHeld ?_ ?_
        rotate_left
        ·rintro w' ⟨s0, s1⟩
         go_simp
         with_reducible rfl
        rotate_left
        ·simp only [sp_]
         rfl
        refine pure_ (i := 4) (N := some 55) (v := ?_) (a' := ?_) (bA 9 31) rfl rfl (by kernel_rfl) (fun _ _ _ h => h) (Or.inl ⟨(by rfl), ?_⟩) ?_ ?_
        rotate_left
        ·intro w'
         go_simp
         with_reducible rfl
        rotate_left
        ·simp only [sp_]
         rfl
        refine take_ (i := 5) (N := some 56) (v := ?_) (a' := ?_) (bA 9 63) rfl rfl (by kernel_rfl) (fun _ _ _ h => h) (Or.inl ⟨(by rfl), ?_⟩) hHeld ?_ ?_
        rotate_left
        ·rintro w' ⟨s0, s1⟩
         go_simp
         with_reducible rfl
        rotate_left
        ·simp only [sp_]
         rfl
        refine pure_ (i := 6) (N := some 57) (v := ?_) (a' := ?_) (bA 9 127) rfl rfl (by kernel_rfl) (fun _ _ _ h => h) (Or.inl ⟨(by rfl), ?_⟩) ?_ ?_
        rotate_left
        ·intro w'
         go_simp
         with_reducible rfl
        rotate_left
        ·simp only [sp_]
         rfl
        refine pure_ (i := 7) (N := some 58) (v := ?_) (a' := ?_) (bA 9 255) rfl rfl (by kernel_rfl) (fun _ _ _ h => h) (Or.inl ⟨(by rfl), ?_⟩) ?_ ?_
        rotate_left
        ·intro w'
         go_simp
         with_reducible rfl
        rotate_left
        ·simp only [sp_]
         rfl
        refine last_ (i := 8) (N := none) (bA 9 511) rfl rfl (by kernel_rfl) (by decide) (fun K hK => ?_)
        refine skip_ (w1 := ?_) (by rfl) rfl ?_ ?_
        rotate_left
        ·go_simp
         rfl
        refine hK.out _ _ ?_
        clear hK K
        refine done_ (by kernel_rfl) ?_
        try go_wp2
        have n1_ := Aside0.mk ((hset (wrap64 (yt + 1))).swap5)
        clear EX
        have EX := n1_
        clear n1_
        go_meet
        case rel => exact ⟨_, _, _, _, _, _, _, rfl, ⟨EX.out.bp⟩, ⟨EX.out.b2⟩, ⟨EX.out.fin EX.out.v5 BY.out.2.2.1 (by rw [List.length_set]; have := BY.out; omega) BY.out.2.2.2⟩⟩
       ·by_cases d1 : q = 1
        ·subst d1
         clear r0_ r1_ d0
         have hs2 := (blk_cell EX.out.bp 2).trans rfl
         have hsf2 := blk_frozen EX.out.bp 2
         obtain ⟨iy2, hiy2, _, hsz2, _⟩ := info_parts info2
         have hn5 := (Kd.R_reads' EX.out.r5).1
         have hcut3 := cut_from (P := Tryd.prog) 24 2 .i64 Tryd.underlying24 hiy2 1 hsz2 A5 n5 c5 1 (by decide) (by have := NB.out; omega)
         obtain ⟨A7, hA7⟩ : ∃ z_, z_ = (if c5 = (1 : Int).toNat then A5 else A5.map (·.add ((1 : Int).toNat * 1))) := ⟨_, rfl⟩
         obtain ⟨n7, hn7⟩ : ∃ z_, z_ = n5 - (1 : Int).toNat := ⟨_, rfl⟩
         obtain ⟨c7, hc7⟩ : ∃ z_, z_ = c5 - (1 : Int).toNat := ⟨_, rfl⟩
         rw [← hA7, ← hn7, ← hc7] at hcut3
         have E7 := Aside0.mk (And.intro hA7 (And.intro hn7 hc7))
         clear hiy2 hsz2 hn5 hA7 hn7 hc7
         go_wp2
         clear hs2 hsf2 hcut3
         have n1_ := Aside0.mk (EX.out.put 2 (.slice A7 n7 c7) (cs' := #[.int .i64 pv, .int .i64 pn, .slice A7 n7 c7, .slice A6 n6 c6]) rfl)
         clear EX
         generalize (wy.setCell ⟨gp, 2, none⟩ (.slice A7 n7 c7)) = wi at n1_ ⊢
         have EX := n1_
         clear n1_
         have V5_ := V_drop1 EX.out.v5 NB.out
         rw [← E7.out.1, ← E7.out.2.1, ← E7.out.2.2] at V5_
         go_meet
         case rel => exact ⟨_, _, _, _, _, _, _, rfl, ⟨EX.out.bp⟩, ⟨EX.out.b2⟩, ⟨EX.out.fin V5_ (by rw [List.length_drop]; have := BY.out; omega) (by have := BY.out; omega) (fun x_ hx_ => BY.out.2.2.2 x_ (List.mem_of_mem_drop hx_))⟩⟩
        ·by_cases d2 : q = 2
         ·subst d2
          clear r0_ r1_ d0 d1
          go_wp2_with fail
          have n2_ := Aside0.mk (heap_alloc_new wy (.cells #[.int .i64 (-1), .int .i64 0, .int .i64 3, .int .i64 100000, .int .i64 100001] 2))
          have n3_ := Aside0.mk (show wy.heap.size ≠ g from Nat.ne_of_gt EX.out.cs_.lt)
          have n1_ := Aside0.mk (EX.out.below (below_alloc (Below.refl wy.heap.size wy) (.cells #[.int .i64 (-1), .int .i64 0, .int .i64 3, .int .i64 100000, .int .i64 100001] 2)))
          clear EX
          have EX := n1_
          clear n1_
          generalize wy.alloc (.cells #[.int .i64 (-1), .int .i64 0, .int .i64 3, .int .i64 100000, .int .i64 100001] 2) = wf at EX n2_ ⊢
          generalize wy.heap.size = gl at n2_ n3_ ⊢
          refine (below_c 5 EX.out.cs_ EX.out.bel).mono ?_
          rintro e wh ⟨j, rfl, r0_, r1_, hi, hb, hk⟩
          replace r1_ := r1_ (by decide)
          obtain ⟨xj, hxj⟩ : ∃ x_ : Int, (#[.int .i64 (-1), .int .i64 0, .int .i64 3, .int .i64 100000, .int .i64 100001] : Array Value)[j.toNat]? = some (.int .i64 x_) := by
           have h_ : j = 0 ∨ j = 1 ∨ j = 2 ∨ j = 3 ∨ j = 4 := by omega
           rcases h_ with rfl | rfl | rfl | rfl | rfl <;> exact ⟨_, rfl⟩
          have hx_ : wh.cell? ⟨gl, j.toNat, none⟩ = some (.int .i64 xj) := (blk_cell (hk.blk n2_.out n3_.out (by simp)) _).trans hxj
          have n1_ := Aside0.mk (EX.out.keep hi hb hk)
          clear EX
          have EX := n1_
          clear n1_
          clear hi hb hk hxj n2_ n3_
          replace r0_ := eq_true r0_
          replace r1_ := eq_true r1_
          have hs0 := (blk_cell EX.out.bp 0).trans rfl
          have hsf0 := blk_frozen EX.out.bp 0
          go_wp2
          clear hs0 hsf0 hx_
          have n1_ := Aside0.mk (EX.out.put 0 (.int .i64 xj) (cs' := #[.int .i64 xj, .int .i64 pn, .slice A5 n5 c5, .slice A6 n6 c6]) rfl)
          clear EX
          generalize (wh.setCell ⟨gp, 0, none⟩ (.int .i64 xj)) = wi at n1_ ⊢
          have EX := n1_
          clear n1_
          go_meet
          case rel => exact ⟨_, _, _, _, _, _, _, rfl, ⟨EX.out.bp⟩, ⟨EX.out.b2⟩, ⟨EX.out.fin EX.out.v5 BY.out.2.2.1 (by have := BY.out; omega) BY.out.2.2.2⟩⟩
         ·obtain rfl : q = 3 := by omega
          clear r0_ r1_ d0 d1 d2
          go_wp2_with fail
          have n1_ := Aside0.mk (EX.out.below (below_drew (Below.refl _ _)))
          clear EX
          have EX := n1_
          clear n1_
          have HT := Aside0.mk (show 1 < bys.length from (by have := BY.out.2.1 NB.out; omega))
          obtain ⟨q5, c5b, hv, hx, hf, hset⟩ := EX.out.set5 0 NB.out
          obtain ⟨q5b, c5d, hv2, _, _, hx2, _⟩ := R_at2 EX.out.r5 1 HT.out
          rw [hv] at hv2
          injection hv2 with ha2 _ _
          injection ha2 with ha2
          injection ha2 with ha2
          subst ha2
          injection hv with ha hn hc
          subst ha hn hc
          have z0 : ((0 : Int) < (bys.length : Int)) = True := eq_true (by have := HT.out; omega)
          have z1 : (0 < bys.length) = True := eq_true NB.out
          have z2 : ((1 : Int) < (bys.length : Int)) = True := eq_true (by have := HT.out; omega)
          have z3 : (1 < bys.length) = True := eq_true HT.out
          generalize hyb : bys.getD 1 0 = yb at hx2
          have YB := Aside0.mk hyb
          clear hyb
          refine start_ (n := 8) (S := fun w' => w'.cell? ⟨gp, 2, none⟩ = some (.slice (some ⟨q5, 0, none⟩) bys.length c5) ∧ w'.cell? ⟨q5, 1, none⟩ = some (.int .i64 yb)) (ds := [7]) (bA 8 0) (by kernel_rfl) rfl rfl ⟨(blk_cell EX.out.bp 2).trans rfl, hx2⟩ (fun hHeld => ?_)
          generalize wy.drew = wd at EX hx hx2 hf hset hHeld ⊢
          refine pure_ (i := 0) (N := some 75) (v := ?_) (a' := ?_) (bA 8 1) rfl rfl (by kernel_rfl) (fun _ _ _ h => h) (Or.inl ⟨(by rfl), ?_⟩) ?_ ?_
          rotate_left
          ·intro w'
           go_simp
           with_reducible rfl
          rotate_left
          ·simp only [sp_]
           rfl
          refine pure_ (i := 2) (N := some 77) (v := ?_) (a' := ?_) (bA 8 5) rfl rfl (by kernel_rfl) (fun _ _ _ h => h) (Or.inl ⟨(by rfl), ?_⟩) ?_ ?_
          rotate_left
          ·intro w'
           go_simp
           with_reducible rfl
          rotate_left
          ·simp only [sp_]
           rfl
          refine take_ (i := 1) (N := some 76) (v := ?_) (a' := ?_) (bA 8 7) rfl rfl (by kernel_rfl) (fun _ _ _ h => h) (Or.inl ⟨(by rfl), ?_⟩) hHeld ?_ ?_
          rotate_left
          ·rintro w' ⟨s0, s1⟩
           go_simp
           with_reducible rfl
          rotate_left
          ·simp only [sp_]
           rfl
          refine take_ (i := 3) (N := some 78) (v := ?_) (a' := ?_) (bA 8 15) rfl rfl (by kernel_rfl) (fun _ _ _ h => h) (Or.inl ⟨(by rfl), ?_⟩) hHeld ?_ ?_
          rotate_left
          ·rintro w' ⟨s0, s1⟩
           go_simp
           with_reducible rfl
          rotate_left
          ·simp only [sp_]
           rfl
          refine pure_ (i := 4) (N := some 79) (v := ?_) (a' := ?_) (bA 8 31) rfl rfl (by kernel_rfl) (fun _ _ _ h => h) (Or.inl ⟨(by rfl), ?_⟩) ?_ ?_
          rotate_left
          ·intro w'
           go_simp
           with_reducible rfl
          rotate_left
          ·simp only [sp_]
           rfl
          refine take_ (i := 5) (N := some 80) (v := ?_) (a' := ?_) (bA 8 63) rfl rfl (by kernel_rfl) (fun _ _ _ h => h) (Or.inl ⟨(by rfl), ?_⟩) hHeld ?_ ?_
          rotate_left
          ·rintro w' ⟨s0, s1⟩
           go_simp
           with_reducible rfl
          rotate_left
          ·simp only [sp_]
           rfl
          refine pure_ (i := 6) (N := some 81) (v := ?_) (a' := ?_) (bA 8 127) rfl rfl (by kernel_rfl) (fun _ _ _ h => h) (Or.inl ⟨(by rfl), ?_⟩) ?_ ?_
          rotate_left
          ·intro w'
           go_simp
           with_reducible rfl
          rotate_left
          ·simp only [sp_]
           rfl
          refine last_ (i := 7) (N := none) (bA 8 255) rfl rfl (by kernel_rfl) (by decide) (fun K hK => ?_)
          refine skip_ (w1 := ?_) (by rfl) rfl ?_ ?_
          rotate_left
          ·go_simp
           rfl
          refine hK.out _ _ ?_
          clear hK K
          refine done_ (by kernel_rfl) ?_
          try go_wp2
          have n1_ := Aside0.mk (hset yb)
          clear EX
          have EX := n1_
          clear n1_
          go_meet
          case rel => exact ⟨_, _, _, _, _, _, _, rfl, ⟨EX.out.bp⟩, ⟨EX.out.b2⟩, ⟨EX.out.fin EX.out.v5 (by rw [List.length_set]; exact BY.out.2.2.1) (by have := BY.out; omega) (fun x_ hx_ => by rcases List.mem_or_eq_of_mem_set hx_ with h_ | rfl; exact BY.out.2.2.2 x_ h_; rw [← YB.out, List.getD_eq_getElem?_getD, List.getElem?_eq_getElem HT.out]; exact BY.out.2.2.2 _ (List.getElem_mem HT.out))⟩⟩
     case rest =>
      clear EX
      obtain ⟨pv, A5, A6, n5, n6, c5, c6, rfl, BP, BR, FN⟩ := hcut
      have hs0 := (blk_cell BP.out 0).trans rfl
      have hs1 := (blk_cell BP.out 1).trans rfl
      have hs2 := (blk_cell BP.out 2).trans rfl
      have hs3 := (blk_cell BP.out 3).trans rfl
      have hr0 := (blk_cell BR.out 0).trans rfl
      have hr1 := (blk_cell BR.out 1).trans rfl
      have hr2 := (blk_cell BR.out 2).trans rfl
      have hr3 := (blk_cell BR.out 3).trans rfl
      have hrf0 := blk_frozen BR.out 0
      have hrf1 := blk_frozen BR.out 1
      have hrf2 := blk_frozen BR.out 2
      have hrf3 := blk_frozen BR.out 3
      go_wp2
      refine bodyPost_ret (results_cell_row rfl _ _ g2 26 #[.int .i64 pv, .int .i64 pn, .slice A5 n5 c5, .slice A6 n6 c6] (0, 0) _ rfl (by refine blk_put (cs := #[.int .i64 pv, .int .i64 pn, .slice A5 n5 c5, .slice none 0 0]) ?_ 3 _ rfl; refine blk_put (cs := #[.int .i64 pv, .int .i64 pn, .slice none 0 0, .slice none 0 0]) ?_ 2 _ rfl; refine blk_put (cs := #[.int .i64 pv, .int .i64 0, .slice none 0 0, .slice none 0 0]) ?_ 1 _ rfl; refine blk_put (cs := #[.int .i64 0, .int .i64 0, .slice none 0 0, .slice none 0 0]) ?_ 0 _ rfl; exact BR.out) Tryd.underlying26 rfl (by kernel_rfl)) rfl ?_
      have FE := (((FN.out.put 0 (.int .i64 pv)).put 1 (.int .i64 pn)).put 2 (.slice A5 n5 c5)).put 3 (.slice A6 n6 c6)
      exact ⟨pv, pn, A5, A6, n5, n6, c5, c6, rfl, FE.pf.mono (fun _ h _ => h.1), FE.cs_, FE.bel, FE.kb⟩
 ·skip
  have hr0 := (blk_cell BK2.out 0).trans rfl
  have hr1 := (blk_cell BK2.out 1).trans rfl
  have hr2 := (blk_cell BK2.out 2).trans rfl
  have hr3 := (blk_cell BK2.out 3).trans rfl
  have hrf0 := blk_frozen BK2.out 0
  have hrf1 := blk_frozen BK2.out 1
  have hrf2 := blk_frozen BK2.out 2
  have hrf3 := blk_frozen BK2.out 3
  go_wp2
  refine bodyPost_ret (results_cell_row rfl _ _ g2 26 #[.int .i64 0, .int .i64 0, .slice none 0 0, .slice none 0 0] (0, 0) _ rfl (by refine blk_put (cs := #[.int .i64 0, .int .i64 0, .slice none 0 0, .slice none 0 0]) ?_ 3 _ rfl; refine blk_put (cs := #[.int .i64 0, .int .i64 0, .slice none 0 0, .slice none 0 0]) ?_ 2 _ rfl; refine blk_put (cs := #[.int .i64 0, .int .i64 0, .slice none 0 0, .slice none 0 0]) ?_ 1 _ rfl; refine blk_put (cs := #[.int .i64 0, .int .i64 0, .slice none 0 0, .slice none 0 0]) ?_ 0 _ rfl; exact BK2.out) Tryd.underlying26 rfl (by kernel_rfl)) rfl ?_
  have FN : Fin w0 w wz g g2 (.slice none 0 0) (.slice none 0 0) (.slice none 0 0) [] := ⟨⟨[], [], Kd.V_nil _ _ _ _ _, Kd.V_nil _ _ _ _ _, (by decide), (by decide), fun _ h => absurd h (by simp)⟩, Kd.R_nil _ _ _ _ _, HI.out, HB.out, HK.out, HG.out.1, GE2.out, HG.out.2⟩
  have FE := (((FN.put 0 (.int .i64 0)).put 1 (.int .i64 0)).put 2 (.slice none 0 0)).put 3 (.slice none 0 0)
  exact ⟨0, 0, none, none, 0, 0, 0, 0, rfl, FE.pf.mono (fun _ h _ => h.1), FE.cs_, FE.bel, FE.kb⟩
end Go.Proofs.YtokhjhkkncbjeaaDoor.PFnBlocks
