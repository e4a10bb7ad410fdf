import Derived.Test.YtokhjhkkncbjeaaDoorPFnBlocksx91
namespace Go.Proofs.YtokhjhkkncbjeaaDoor.PFnBlocks
open Go.RowKit Go.Proofs.YtokhjhkkncbjeaaDoorW.PrintWords Go.Proofs.YtokhjhkkncbjeaaDoorW.PrintLast Go.Proofs.YtokhjhkkncbjeaaDoorW.PrintMore
attribute [local go_sem] max2_int min2_int max_two min_two max_three min_three max_four min_four
attribute [local go_sem high] str_gtr str_leq str_geq
set_option linter.unusedVariables false
set_option linter.unusedSimpArgs false
set_option maxHeartbeats 8000000 in
set_option maxRecDepth 100000 in
theorem gath_c (A : Option Addr) (n c : Nat) (l : List S86) (w : World) (hn : n = l.length) (hr : Kd.C k86 w A n l) (hc : n ≤ c) (hl : l.length ≤ 8) (hl0 : 0 < l.length) (hv : ∀ v ∈ l, VT v) : Calls Tryd.prog 66 #[.slice A n c, .int .i64 4] w fun e w' => ∃ (pv pn : Int) (A5 A6 : Option Addr) (n5 n6 c5 c6 : Nat) (bys ts : List Int) (ok : Bool), e = .returned (.tuple #[.agg #[.int .i64 pv, .int .i64 pn, .slice A5 n5 c5, .slice A6 n6 c6], .bool ok]) ∧
  Kd.R (Kd.int .i64) 2 w' w.heap.size (fun k => some k ≠ (Value.slice A6 n6 c6).ownBlock) (.slice A5 n5 c5) bys ∧ Kd.R (Kd.int .i64) 2 w' w.heap.size (fun k => some k ≠ (Value.slice A5 n5 c5).ownBlock) (.slice A6 n6 c6) ts ∧ bys.length = ts.length ∧ (0 < bys.length → 2 ≤ bys.length) ∧ bys.length ≤ 4 ∧ (∀ x ∈ bys, -9223372036854775808 ≤ x ∧ x ≤ 9223372036854775807) ∧ Below w.heap.size w w' := by
 have eg1 : ∀ args w, (callFunc 41 args).run Tryd.prog w = .ok (.enter 41 args) w := enters_ Tryd.func41 (by kernel_rfl) rfl
 have eg2 : ∀ args w, (callFunc 63 args).run Tryd.prog w = .ok (.enter 63 args) w := enters_ Tryd.func63 (by kernel_rfl) rfl
 have eg3 : ∀ args w, (callFunc 64 args).run Tryd.prog w = .ok (.enter 64 args) w := enters_ Tryd.func64 (by kernel_rfl) rfl
 have hu26 := Tryd.underlying26
 have hu86 := Tryd.underlying86
 subst hn
 have HR := Aside0.mk hr
 have HC := Aside0.mk hc
 have HL := Aside0.mk (And.intro hl0 hl)
 have HV := Aside0.mk hv
 have z1 : ((l.length : Int) == 0) = false := beq_eq_false_iff_ne.mpr (by omega)
 clear hr hc hl hl0 hv
 go_enter Tryd.func66, Tryd.ntmps66
 go_wp2_with (first | ((with_reducible refine gate_dst (N := 4) rfl ?_); refine box_event ?hg (N := 4) ?hd (cs := #[.int .i64 0, .int .i64 0, .slice none 0 0, .slice none 0 0]) (t := 26) ?hr ?_; (case hd => rfl); (case hg => rfl); (case hr => first | (go_simp; done) | (go_simp; rfl)); intro gr hg w1 hbox hb; have BR := Aside0.mk hbox; have HB := Aside0.mk hb; have GR := Aside0.mk (Nat.le_of_eq hg.symm); clear hg hbox hb))
 refine (spec_l15Servers.calls 4 true _ rfl).mono ?_
 rintro e wq ⟨rfl, nd, hq⟩
 have n1_ := Aside0.mk (show Below w.heap.size w wq from (by rw [hq]; exact pw_below_drewN HB.out nd))
 have n2_ := Aside0.mk (show wq.heap[gr]? = some (.cells #[.int .i64 0, .int .i64 0, .slice none 0 0, .slice none 0 0] 26 (0, 0)) from (by rw [hq]; exact BR.out))
 clear HB BR hq nd
 have HB := Aside0.mk (below_drew n1_.out)
 have BR := Aside0.mk (blk_drew n2_.out)
 clear n1_ n2_
 have z2 : ((0 : Int) < (l.length : Int)) = True := eq_true (by have := HL.out; omega)
 have z3 : (0 < l.length) = True := eq_true HL.out.1
 obtain ⟨ad, hA, hx0, hx1, _, _⟩ := at_T86 HR.out 0 (by decide) (by have := HL.out; omega)
 subst hA
 rw [show ((0 : Int)).toNat = 0 from rfl, show 0 * 4 = 0 from rfl, Addr.add_zero'] at hx0 hx1
 generalize (rd_T86 l 0).f0 = pv at hx0
 generalize (rd_T86 l 0).f1 = pn at hx1
 go_wp2_with fail
 refine start_ (n := 11) (S := fun w' => w'.cell? ad = some (.int .i64 pv) ∧ w'.cell? ⟨ad.block, ad.off + 1, none⟩ = some (.int .i64 pn)) (ds := [10]) (bA 11 0) (by kernel_rfl) rfl rfl ⟨pw_cell_below HB.out hx0, pw_cell_below HB.out hx1⟩ (fun hHeld => ?_)
 generalize wq.drew = wd at HB BR hHeld ⊢
 refine pure_ (i := 0) (N := some 19) (v := ?_) (a' := ?_) (bA 11 1) rfl rfl (by kernel_rfl) (fun _ _ _ h => h) (Or.inl ⟨(by rfl), ?_⟩) ?_ ?_
 rotate_left
 ·intro w'
  go_simp
  with_reducible rfl
 rotate_left
 ·simp only [sp_]
  rfl
 refine pure_ (i := 1) (N := some 20) (v := ?_) (a' := ?_) (bA 11 3) rfl rfl (by kernel_rfl) (fun _ _ _ h => h) (Or.inl ⟨(by rfl), ?_⟩) ?_ ?_
 rotate_left
 ·intro w'
  go_simp
  with_reducible rfl
 rotate_left
 ·simp only [sp_]
  rfl
 refine pure_ (i := 2) (N := some 21) (v := ?_) (a' := ?_) (bA 11 7) rfl rfl (by kernel_rfl) (fun _ _ _ h => h) (Or.inl ⟨(by rfl), ?_⟩) ?_ ?_
 rotate_left
 ·intro w'
  go_simp
  with_reducible rfl
 rotate_left
 ·simp only [sp_]
  rfl
 refine pure_ (i := 4) (N := some 23) (v := ?_) (a' := ?_) (bA 11 23) rfl rfl (by kernel_rfl) (fun _ _ _ h => h) (Or.inl ⟨(by rfl), ?_⟩) ?_ ?_
 rotate_left
 ·intro w'
  go_simp
  with_reducible rfl
 rotate_left
 ·simp only [sp_]
  rfl
 refine pure_ (i := 5) (N := some 24) (v := ?_) (a' := ?_) (bA 11 55) rfl rfl (by kernel_rfl) (fun _ _ _ h => h) (Or.inl ⟨(by rfl), ?_⟩) ?_ ?_
 rotate_left
 ·intro w'
  go_simp
  with_reducible rfl
 rotate_left
 ·simp only [sp_]
  rfl
 refine pure_ (i := 6) (N := some 25) (v := ?_) (a' := ?_) (bA 11 119) rfl rfl (by kernel_rfl) (fun _ _ _ h => h) (Or.inl ⟨(by rfl), ?_⟩) ?_ ?_
 rotate_left
 ·intro w'
  go_simp
  with_reducible rfl
 rotate_left
 ·simp only [sp_]
  rfl
 refine take_ (i := 3) (N := some 22) (v := ?_) (a' := ?_) (bA 11 127) rfl rfl (by kernel_rfl) (fun _ _ _ h => h) (Or.inl ⟨(by rfl), ?_⟩) hHeld ?_ ?_
 rotate_left
 ·rintro w' ⟨s0, s1⟩
  go_simp
  with_reducible rfl
 rotate_left
 ·simp only [sp_]
  rfl
 refine take_ (i := 7) (N := some 26) (v := ?_) (a' := ?_) (bA 11 255) rfl rfl (by kernel_rfl) (fun _ _ _ h => h) (Or.inl ⟨(by rfl), ?_⟩) hHeld ?_ ?_
 rotate_left
 ·rintro w' ⟨s0, s1⟩
  go_simp
  with_reducible rfl
 rotate_left
 ·simp only [sp_]
  rfl
 refine pure_ (i := 8) (N := some 27) (v := ?_) (a' := ?_) (bA 11 511) rfl rfl (by kernel_rfl) (fun _ _ _ h => h) (Or.inl ⟨(by rfl), ?_⟩) ?_ ?_
 rotate_left
 ·intro w'
  go_simp
  with_reducible rfl
 rotate_left
 ·simp only [sp_]
  rfl
 refine one_ (i := 9) (N := some 6) (bA 11 1023) rfl rfl (by kernel_rfl) (by decide) (fun K hK => ?_)
 refine value_ (w1 := ?_) (v := ?_) (by rfl) rfl ?_ ?_
 rotate_left 2
 ·go_simp
  constructor
  ·rfl
  ·rfl
 refine hK.out _ _ ⟨pw_cell_below (below_alloc HB.out _) hx0, pw_cell_below (below_alloc HB.out _) hx1⟩ (fun hHeld => ?_)
 clear hK K
 refine norm_ (a' := ?_) ?_ ?_
 rotate_left
 ·show Act.put _ (some 6) _ = _
  simp only [sp_]
  rfl
 refine last_ (i := 10) (N := none) (bA 11 2047) rfl rfl (by kernel_rfl) (by decide) (fun K hK => ?_)
 refine skip_ (w1 := ?_) (by rfl) rfl ?_ ?_
 rotate_left
 ·go_simp
  rfl
 refine hK.out _ _ ?_
 clear hK K
 refine done_ (by kernel_rfl) ?_
 have hA_ := below_alloc (Below.refl wd.heap.size wd) (.cells #[.int .i64 pv, .int .i64 pn, .slice none 0 0, .slice none 0 0] 26)
 have GX : Aside0 (Gx w (wd.alloc (.cells #[.int .i64 pv, .int .i64 pn, .slice none 0 0, .slice none 0 0] 26)) gr wd.heap.size #[.int .i64 pv, .int .i64 pn, .slice none 0 0, .slice none 0 0] (.slice none 0 0) (.slice none 0 0) [] []) := ⟨⟨Kd.R_nil _ _ _ _ _, Kd.R_nil _ _ _ _ _, heap_alloc_new wd _, blk_below BR.out hA_, below_alloc HB.out _, HB.out.size, GR.out, Nat.ne_of_gt (blk_lt BR.out)⟩⟩
 clear hA_ HB BR hHeld
 generalize wd.alloc (.cells #[.int .i64 pv, .int .i64 pn, .slice none 0 0, .slice none 0 0] 26) = wx at GX ⊢
 generalize wd.heap.size = gp at GX ⊢
 try go_wp2
 go_loopg [7] 6 (fun kq v7 w' => ∃ (s : Int) (V5 V6 : Value) (bys ts : List Int), v7 = .int .i64 s ∧ Aside0 (0 ≤ s ∧ s ≤ 4 ∧ 4 - s < kq) ∧ Aside0 (bys.length = ts.length ∧ (bys.length : Int) ≤ s ∧ ∀ x ∈ bys, 0 ≤ x ∧ x < 4) ∧ Aside0 (Gx w w' gr gp #[.int .i64 pv, .int .i64 pn, V5, V6] V5 V6 bys ts))
 case atStart => exact ⟨0, _, _, [], [], rfl, ⟨(by decide)⟩, ⟨(by simp)⟩, GX⟩
 case round =>
  clear GX z2 z3 hx0 hx1
  obtain ⟨s, V5, V6, bys, ts, rfl, HN, BY, GX⟩ := hrel
  by_cases c1 : s < 4
  ·have c1b : decide (s < 4) = true := decide_eq_true c1
   have HP := Aside0.mk c1
   clear c1
   go_upto_block 1 with (fail)
   go_cut [7] (fun v7 wc => ∃ (V5 V6 : Value) (bys ts : List Int), v7 = .int .i64 s ∧ Aside0 (bys.length = ts.length ∧ (bys.length : Int) ≤ s + 1 ∧ ∀ x ∈ bys, 0 ≤ x ∧ x < 4) ∧ Aside0 (Gx w wc gr gp #[.int .i64 pv, .int .i64 pn, V5, V6] V5 V6 bys ts))
   case first =>
    go_wp2
    go_loopg [8] (l.length + 2) (fun kq v8 w' => ∃ (i : Int), v8 = .int .i64 i ∧ Aside0 (0 ≤ i ∧ i ≤ l.length ∧ (l.length : Int) - i < kq) ∧ Aside0 (Gx w w' gr gp #[.int .i64 pv, .int .i64 pn, V5, V6] V5 V6 bys ts))
    case atStart => exact ⟨0, rfl, ⟨(by have := HL.out; omega)⟩, GX⟩
    case round =>
     clear GX
     obtain ⟨i, rfl, HI, GX⟩ := hrel
     by_cases c2 : i < (l.length : Int)
     ·have c2b : decide (i < (l.length : Int)) = true := decide_eq_true c2
      have QI := Aside0.mk c2
      obtain ⟨ad2, hA2, y0, y1, y2, y3⟩ := at_T86 HR.out i HI.out.1 c2
      injection hA2 with hA2
      subst hA2
      have VV : Aside0 (VT (rd_T86 l i)) := ⟨HV.out _ (by rw [rd_T86, List.getD_eq_getElem?_getD, List.getElem?_eq_getElem (by have := HI.out; omega)]; exact List.getElem_mem _)⟩
      generalize rd_T86 l i = v at y0 y1 y2 y3 VV
      replace y0 := pw_cell_below GX.out.bel y0
      replace y1 := pw_cell_below GX.out.bel y1
      replace y2 := pw_cell_below GX.out.bel y2
      replace y3 := pw_cell_below GX.out.bel y3
      have p2 : (0 ≤ i) = True := eq_true HI.out.1
      have q2 : (i < (l.length : Int)) = True := eq_true c2
      clear c2
      go_upto_region 11 with (fail)
      clear y0 y1 y2 y3
      have hA_ := below_alloc (Below.refl wr.heap.size wr) (.cells #[.int .i64 v.f0, .int .i64 v.f1, .int .i64 v.f2, .int .i64 v.f3] 86)
      have BV := Aside0.mk (heap_alloc_new wr (.cells #[.int .i64 v.f0, .int .i64 v.f1, .int .i64 v.f2, .int .i64 v.f3] 86))
      have n1_ := Aside0.mk (GX.out.below hA_)
      clear GX hA_
      have GX := n1_
      clear n1_
      generalize wr.alloc (.cells #[.int .i64 v.f0, .int .i64 v.f1, .int .i64 v.f2, .int .i64 v.f3] 86) = wv at GX BV ⊢
      generalize wr.heap.size = gv at BV ⊢
      have hv0 := (blk_cell BV.out 0).trans rfl
      have hv1 := (blk_cell BV.out 1).trans rfl
      have hv2 := (blk_cell BV.out 2).trans rfl
      have hv3 := (blk_cell BV.out 3).trans rfl
      have hs0 := (blk_cell GX.out.bp 0).trans rfl
      have hs1 := (blk_cell GX.out.bp 1).trans rfl
      by_cases e1 : v.f2 = s
      ·have b1 : (v.f2 == s) = true := beq_iff_eq.mpr e1
       by_cases e2 : v.f0 = pv
       ·have b2 : (v.f0 == pv) = true := beq_iff_eq.mpr e2
        by_cases e3 : v.f1 = pn
        ·have b3 : (v.f1 == pn) = true := beq_iff_eq.mpr e3
         clear e1 e2 e3
         go_wp2_with fail
         clear hs0 hs1 hv0 hv1 hv2 hv3
         refine (vote_c v VV.out _).mono ?_
         rintro e wv2 ⟨r, rfl, hb⟩
         have n1_ := Aside0.mk (GX.out.below hb)
         have n2_ := Aside0.mk (blk_below BV.out hb)
         clear GX BV hb
         have GX := n1_
         have BV := n2_
         clear n1_ n2_
         cases r
         ·go_wp2
          have e2_ := Aside0.mk (show wrap64 (i + 1) = i + 1 from (by have := HI.out; have := HL.out; rw [w64 (by omega) (by omega)]))
          go_roundg (gk - 1)
          case measure => have := HI.out; have := QI.out; omega
          case rel => exact ⟨_, rfl, ⟨(by rw [e2_.out]; have := HI.out; have := QI.out; omega)⟩, GX⟩
         ·skip
          have hl2 := (blk_cell GX.out.bp 2).trans rfl
          go_upto_region 13 with (first | ((with_reducible refine gate_builtin (b := .append) (xs := #[.tmp 67, .tmp 69]) rfl ?_); at_builtin; refine Kd.R_append (Kd.int .i64) w.heap.size rfl (.tmp 67) (.tmp 69) 24 2 (.int .i64 0) 8 rfl Tryd.underlying24 info2 rfl (by decide) (by omega) V5 bys s [.int .i64 s] _ (fun _ => False) rfl rfl ?aP (fun _ hk => hk.elim) GX.out.fresh GX.out.r5 (Below.refl _ _) GX.out.bel.size ?aL ?_; (case aP => exact rfl); (case aL => have := BY.out; have := HN.out; omega); intro va wa ho hb hg hat; obtain ⟨A5, n5, c5, rfl⟩ : ∃ A l c, va = .slice A l c := let ⟨A, c, h_⟩ := Kd.R_slice ho; ⟨A, _, c, h_⟩; have n1_ := Aside0.mk (GX.out.app ho hb hg hat); have n2_ := Aside0.mk (blk_grown BV.out hg (Kd.R_ne GX.out.r5 BV.out (by decide))); clear GX BV ho hb hg hat; have GX := n1_; have BV := n2_; clear n1_ n2_; have hs_ := (blk_cell GX.out.bp 2).trans rfl; have hf_ := blk_frozen GX.out.bp 2))
          clear hs_ hf_
          try clear hl2
          have n1_ := Aside0.mk (GX.out.put 2 (.slice A5 n5 c5) (cs' := #[.int .i64 pv, .int .i64 pn, .slice A5 n5 c5, V6]) rfl)
          have n2_ := Aside0.mk (blk_far BV.out (p := ⟨gp, 2, none⟩) (blk_ne BV.out GX.out.bp (by decide)) (.slice A5 n5 c5))
          clear GX BV
          generalize wa.setCell ⟨gp, 2, none⟩ (.slice A5 n5 c5) = wb at n1_ n2_ ⊢
          have GX := n1_
          have BV := n2_
          clear n1_ n2_
          have hl3 := (blk_cell GX.out.bp 3).trans rfl
          have hv3 := (blk_cell BV.out 3).trans rfl
          go_wp2_with (first | ((with_reducible refine gate_builtin (b := .append) (xs := #[.tmp 73, .tmp 76]) rfl ?_); at_builtin; refine Kd.R_append (Kd.int .i64) w.heap.size rfl (.tmp 73) (.tmp 76) 24 2 (.int .i64 0) 8 rfl Tryd.underlying24 info2 rfl (by decide) (by omega) V6 ts v.f3 [.int .i64 v.f3] _ (fun _ => False) rfl rfl ?aP (fun _ hk => hk.elim) GX.out.swap.fresh GX.out.swap.r5 (Below.refl _ _) GX.out.bel.size ?aL ?_; (case aP => exact rfl); (case aL => have := BY.out; have := HN.out; omega); intro va wa ho hb hg hat; obtain ⟨A6, n6, c6, rfl⟩ : ∃ A l c, va = .slice A l c := let ⟨A, c, h_⟩ := Kd.R_slice ho; ⟨A, _, c, h_⟩; have n1_ := Aside0.mk ((GX.out.swap.app ho hb hg hat).swap); have n2_ := Aside0.mk (blk_grown BV.out hg (Kd.R_ne GX.out.swap.r5 BV.out (by decide))); clear GX BV ho hb hg hat; have GX := n1_; have BV := n2_; clear n1_ n2_; have hs_ := (blk_cell GX.out.bp 3).trans rfl; have hf_ := blk_frozen GX.out.bp 3))
          clear hs_ hf_
          try clear hl3
          try clear hv3
          have n1_ := Aside0.mk (GX.out.put 3 (.slice A6 n6 c6) (cs' := #[.int .i64 pv, .int .i64 pn, .slice A5 n5 c5, .slice A6 n6 c6]) rfl)
          have n2_ := Aside0.mk (blk_far BV.out (p := ⟨gp, 3, none⟩) (blk_ne BV.out GX.out.bp (by decide)) (.slice A6 n6 c6))
          clear GX BV
          generalize wa.setCell ⟨gp, 3, none⟩ (.slice A6 n6 c6) = wc2 at n1_ n2_ ⊢
          have GX := n1_
          have BV := n2_
          clear n1_ n2_
          go_meet
          case rel => exact ⟨_, _, _, _, rfl, ⟨⟨(by rw [List.length_append, List.length_append, BY.out.1]; rfl), (by rw [List.length_append]; simp only [List.length_cons, List.length_nil]; have := BY.out.2.1; omega), fun x_ hx_ => by rcases List.mem_append.1 hx_ with h_ | h_; exact BY.out.2.2 x_ h_; rw [List.mem_singleton.1 h_]; exact ⟨HN.out.1, HP.out⟩⟩⟩, GX⟩
        ·have b3 : (v.f1 == pn) = false := beq_eq_false_iff_ne.mpr e3
         clear e1 e2 e3
         go_wp2
         have e2_ := Aside0.mk (show wrap64 (i + 1) = i + 1 from (by have := HI.out; have := HL.out; rw [w64 (by omega) (by omega)]))
         go_roundg (gk - 1)
         case measure => have := HI.out; have := QI.out; omega
         case rel => exact ⟨_, rfl, ⟨(by rw [e2_.out]; have := HI.out; have := QI.out; omega)⟩, GX⟩
       ·have b2 : (v.f0 == pv) = false := beq_eq_false_iff_ne.mpr e2
        clear e1 e2
        go_wp2
        have e2_ := Aside0.mk (show wrap64 (i + 1) = i + 1 from (by have := HI.out; have := HL.out; rw [w64 (by omega) (by omega)]))
        go_roundg (gk - 1)
        case measure => have := HI.out; have := QI.out; omega
        case rel => exact ⟨_, rfl, ⟨(by rw [e2_.out]; have := HI.out; have := QI.out; omega)⟩, GX⟩
      ·have b1 : (v.f2 == s) = false := beq_eq_false_iff_ne.mpr e1
       clear e1
       go_wp2
       have e2_ := Aside0.mk (show wrap64 (i + 1) = i + 1 from (by have := HI.out; have := HL.out; rw [w64 (by omega) (by omega)]))
       go_roundg (gk - 1)
       case measure => have := HI.out; have := QI.out; omega
       case rel => exact ⟨_, rfl, ⟨(by rw [e2_.out]; have := HI.out; have := QI.out; omega)⟩, GX⟩
     ·have c2b : decide (i < (l.length : Int)) = false := decide_eq_false c2
      clear c2
      go_wp2
      go_meet
      case rel => exact ⟨_, _, _, _, rfl, ⟨⟨BY.out.1, (by have := BY.out.2.1; omega), BY.out.2.2⟩⟩, GX⟩
   case rest =>
    clear GX BY
    obtain ⟨V5, V6, bys, ts, rfl, BY, GX⟩ := hcut
    have e1 := Aside0.mk (show wrap64 (s + 1) = s + 1 from (by have := HN.out; rw [w64 (by omega) (by omega)]))
    go_wp2
    go_roundg (gk - 1)
    case measure => have := HN.out; have := HP.out; omega
    case rel => exact ⟨_, _, _, _, _, rfl, ⟨(by rw [e1.out]; have := HN.out; have := HP.out; omega)⟩, ⟨(by rw [e1.out]; exact BY.out)⟩, GX⟩
  ·have c1b : decide (s < 4) = false := decide_eq_false c1
   clear c1
   obtain ⟨A5, c5, hv_⟩ := Kd.R_slice GX.out.r5
   subst hv_
   obtain ⟨A6, c6, hv_⟩ := Kd.R_slice GX.out.r6
   subst hv_
   go_wp2_with fail
   have n1_ := Aside0.mk (GX.out.below (below_drew (Below.refl _ _)))
   clear GX
   have GX := n1_
   clear n1_
   refine start_ (n := 6) (S := fun w' => w'.cell? ⟨gp, 2, none⟩ = some (.slice A5 bys.length c5)) (ds := []) #[false, false, false, false, false, false] (by kernel_rfl) rfl rfl ((blk_cell GX.out.bp 2).trans rfl) (fun hHeld => ?_)
   generalize wr.drew = wd2 at GX hHeld ⊢
   refine pure_ (i := 0) (N := some 79) (v := ?_) (a' := ?_) #[true, false, false, false, false, false] rfl rfl (by kernel_rfl) (fun _ _ _ h => h) (Or.inl ⟨(by rfl), ?_⟩) ?_ ?_
   rotate_left
   ·intro w'
    go_simp
    with_reducible rfl
   rotate_left
   ·simp only [sp_]
    rfl
   refine pure_ (i := 3) (N := some 82) (v := ?_) (a' := ?_) #[true, false, false, true, false, false] rfl rfl (by kernel_rfl) (fun _ _ _ h => h) (Or.inl ⟨(by rfl), ?_⟩) ?_ ?_
   rotate_left
   ·intro w'
    go_simp
    with_reducible rfl
   rotate_left
   ·simp only [sp_]
    rfl
   refine take_ (i := 1) (N := some 80) (v := ?_) (a' := ?_) #[true, true, false, true, false, false] rfl rfl (by kernel_rfl) (fun _ _ _ h => h) (Or.inl ⟨(by rfl), ?_⟩) hHeld ?_ ?_
   rotate_left
   ·intro w' s0
    go_simp
    with_reducible rfl
   rotate_left
   ·simp only [sp_]
    rfl
   refine pure_ (i := 2) (N := some 81) (v := ?_) (a' := ?_) #[true, true, true, true, false, false] rfl rfl (by kernel_rfl) (fun _ _ _ h => h) (Or.inl ⟨(by rfl), ?_⟩) ?_ ?_
   rotate_left
   ·intro w'
    go_simp
    with_reducible rfl
   rotate_left
   ·simp only [sp_]
    rfl
   refine one_ (i := 4) (N := some 83) #[true, true, true, true, true, false] rfl rfl (by kernel_rfl) (by decide) (fun K hK => ?_)
   refine goes_ Tryd.func63 (by kernel_rfl) rfl #[.int .i64 4] (by rfl) rfl rfl Z18 ?_
   with_reducible refine (spec_Quorum.calls 4 3 _ (by decide +kernel)).mono ?_
   rintro e wq2 ⟨rfl, nd, hq⟩
   refine ⟨_, rfl, ?_⟩
   have n1_ := Aside0.mk (GX.out.below (show Below wd2.heap.size wd2 wq2 from (by rw [hq]; exact pw_below_drewN (Below.refl _ _) nd)))
   clear GX hq nd
   have GX := n1_
   clear n1_
   refine hK.out _ _ ((blk_cell GX.out.bp 2).trans rfl) (fun hHeld => ?_)
   clear hK K
   refine norm_ (a' := ?_) ?_ ?_
   rotate_left
   ·show Act.put _ (some 83) _ = _
    simp only [sp_]
    rfl
   refine pure_ (i := 5) (N := some 84) (v := ?_) (a' := ?_) #[true, true, true, true, true, true] rfl rfl (by kernel_rfl) (fun _ _ _ h => h) (Or.inl ⟨(by rfl), ?_⟩) ?_ ?_
   rotate_left
   ·intro w'
    go_simp
    with_reducible rfl
   rotate_left
   ·simp only [sp_]
    rfl
   refine done_ (by kernel_rfl) ?_
   have hr0 := (blk_cell GX.out.b2 0).trans rfl
   have hr1 := (blk_cell GX.out.b2 1).trans rfl
   have hr2 := (blk_cell GX.out.b2 2).trans rfl
   have hr3 := (blk_cell GX.out.b2 3).trans rfl
   have hf0 := blk_frozen GX.out.b2 0
   have hf1 := blk_frozen GX.out.b2 1
   have hf2 := blk_frozen GX.out.b2 2
   have hf3 := blk_frozen GX.out.b2 3
   by_cases c3 : (bys.length : Int) < 3
   ·have c3b : decide ((bys.length : Int) < 3) = true := decide_eq_true c3
    (first | rw [c3b] | skip)
    clear c3
    go_wp2
    refine bodyPost_ret (results_ct rfl _ _ gr 26 #[.int .i64 0, .int .i64 0, .slice none 0 0, .slice none 0 0] (0, 0) _ rfl (by refine blk_put (cs := #[.int .i64 0, .int .i64 0, .slice none 0 0, .slice none 0 0]) ?_ 3 _ rfl; refine blk_put (cs := #[.int .i64 0, .int .i64 0, .slice none 0 0, .slice none 0 0]) ?_ 2 _ rfl; refine blk_put (cs := #[.int .i64 0, .int .i64 0, .slice none 0 0, .slice none 0 0]) ?_ 1 _ rfl; refine blk_put (cs := #[.int .i64 0, .int .i64 0, .slice none 0 0, .slice none 0 0]) ?_ 0 _ rfl; exact GX.out.b2) Tryd.underlying26 rfl (by kernel_rfl)) rfl ?_
    exact ⟨0, 0, none, none, 0, 0, 0, 0, [], [], false, rfl, Kd.R_nil _ _ _ _ _, Kd.R_nil _ _ _ _ _, rfl, (by decide), (by decide), (by simp), ((((GX.out.bel.setCell (p := ⟨gr, 0, none⟩) GX.out.g2l (.int .i64 0)).setCell (p := ⟨gr, 1, none⟩) GX.out.g2l (.int .i64 0)).setCell (p := ⟨gr, 2, none⟩) GX.out.g2l (.slice none 0 0)).setCell (p := ⟨gr, 3, none⟩) GX.out.g2l (.slice none 0 0))⟩
   ·have c3b : decide ((bys.length : Int) < 3) = false := decide_eq_false c3
    (first | rw [c3b] | skip)
    have C3 := Aside0.mk c3
    clear c3
    clear hHeld
    have hg0 : wq2.cell? ⟨gp, 0, none⟩ = some (.int .i64 pv) := (blk_cell GX.out.bp 0).trans rfl
    have hg1 : wq2.cell? ⟨gp, 1, none⟩ = some (.int .i64 pn) := (blk_cell GX.out.bp 1).trans rfl
    have hg2 : wq2.cell? ⟨gp, 2, none⟩ = some (.slice A5 bys.length c5) := (blk_cell GX.out.bp 2).trans rfl
    have hg3 : wq2.cell? ⟨gp, 3, none⟩ = some (.slice A6 ts.length c6) := (blk_cell GX.out.bp 3).trans rfl
    go_wp2
    refine bodyPost_ret (results_ct rfl _ _ gr 26 #[.int .i64 pv, .int .i64 pn, .slice A5 bys.length c5, .slice A6 ts.length c6] (0, 0) _ rfl (by refine blk_put (cs := #[.int .i64 pv, .int .i64 pn, .slice A5 bys.length c5, .slice none 0 0]) ?_ 3 _ rfl; refine blk_put (cs := #[.int .i64 pv, .int .i64 pn, .slice none 0 0, .slice none 0 0]) ?_ 2 _ rfl; refine blk_put (cs := #[.int .i64 pv, .int .i64 0, .slice none 0 0, .slice none 0 0]) ?_ 1 _ rfl; refine blk_put (cs := #[.int .i64 0, .int .i64 0, .slice none 0 0, .slice none 0 0]) ?_ 0 _ rfl; exact GX.out.b2) Tryd.underlying26 rfl (by kernel_rfl)) rfl ?_
    have R5_ := Kd.R_mono (Kd.R_far (Kd.R_far (Kd.R_far (Kd.R_far (Kd.R_types GX.out.r5 GX.out.b2 (by decide)) (p := ⟨gr, 0, none⟩) (fun _ h => h.2) (.int .i64 pv)) (p := ⟨gr, 1, none⟩) (fun _ h => h.2) (.int .i64 pn)) (p := ⟨gr, 2, none⟩) (fun _ h => h.2) (.slice A5 bys.length c5)) (p := ⟨gr, 3, none⟩) (fun _ h => h.2) (.slice A6 ts.length c6)) (fun _ h => h.1)
    have R6_ := Kd.R_mono (Kd.R_far (Kd.R_far (Kd.R_far (Kd.R_far (Kd.R_types GX.out.r6 GX.out.b2 (by decide)) (p := ⟨gr, 0, none⟩) (fun _ h => h.2) (.int .i64 pv)) (p := ⟨gr, 1, none⟩) (fun _ h => h.2) (.int .i64 pn)) (p := ⟨gr, 2, none⟩) (fun _ h => h.2) (.slice A5 bys.length c5)) (p := ⟨gr, 3, none⟩) (fun _ h => h.2) (.slice A6 ts.length c6)) (fun _ h => h.1)
    have BL_ := ((((GX.out.bel.setCell (p := ⟨gr, 0, none⟩) GX.out.g2l (.int .i64 pv)).setCell (p := ⟨gr, 1, none⟩) GX.out.g2l (.int .i64 pn)).setCell (p := ⟨gr, 2, none⟩) GX.out.g2l (.slice A5 bys.length c5)).setCell (p := ⟨gr, 3, none⟩) GX.out.g2l (.slice A6 ts.length c6))
    have L3_ : 0 < bys.length → 2 ≤ bys.length := fun _ => by have := C3.out; omega
    have L4_ : bys.length ≤ 4 := by have := BY.out.2.1; have := HN.out; omega
    have BI_ : ∀ x ∈ bys, -9223372036854775808 ≤ x ∧ x ≤ 9223372036854775807 := fun x_ hx_ => by have := BY.out.2.2 x_ hx_; omega
    first
    | exact ⟨pv, pn, A5, A6, bys.length, ts.length, c5, c6, bys, ts, true, rfl, R5_, R6_, BY.out.1, L3_, L4_, BI_, BL_⟩
    | exact ⟨pv, pn, A5, A6, bys.length, ts.length, c5, c6, ⟨true, rfl⟩, bys, R5_, ts, R6_, BY.out.1, L3_, L4_, BI_, BL_⟩
    | exact ⟨pv, pn, A5, A6, bys.length, ts.length, c5, c6, .inr rfl, bys, R5_, ts, R6_, BY.out.1, L3_, L4_, BI_, BL_⟩
    | exact ⟨pv, pn, A5, A6, bys.length, ts.length, c5, c6, rfl, bys, R5_, ts, R6_, BY.out.1, L3_, L4_, BI_, BL_⟩
end Go.Proofs.YtokhjhkkncbjeaaDoor.PFnBlocks
