import Derived.Test.YtokhjhkkncbjeaaDoorPFnBlocksx94
namespace Go.Proofs.YtokhjhkkncbjeaaDoor.PFnBlocks
open Go.RowKit Go.Proofs.YtokhjhkkncbjeaaDoorW.PrintWords Go.Proofs.YtokhjhkkncbjeaaDoorW.PrintLast Go.Proofs.YtokhjhkkncbjeaaDoorW.PrintMore
attribute [local go_sem] max2_int min2_int max_two min_two max_three min_three max_four min_four
attribute [local go_sem high] str_gtr str_leq str_geq
set_option linter.unusedVariables false
set_option linter.unusedSimpArgs false
theorem max_c (a b : Int) (w : World) : Calls Tryd.prog 45 #[.int .i64 a, .int .i64 b] w fun e w' => ∃ r : Int, e = .returned (.int .i64 r) ∧ Below w.heap.size w w' := by
 have : ∃ r, spec_l1Max.f a b = some r := by unfold spec_l1Max.f; split <;> exact ⟨_, rfl⟩
 obtain ⟨r, h⟩ := this
 refine (spec_l1Max.calls a b r w h).mono ?_
 rintro e w' ⟨rfl, n, rfl⟩
 exact ⟨r, rfl, pw_below_drewN (Below.refl _ _) n⟩
theorem from_c {w0 w : World} {g : Nat} (a b : Int) (hI : Cs w0 w g) (hB : Below w0.heap.size w0 w) : Calls Tryd.prog 48 #[.pointer (some ⟨g, 0, none⟩), .int .i64 a, .int .i64 b] w fun e w' => ∃ r : Int, e = .returned (.int .i64 r) ∧ Cs w0 w' g ∧ Below w0.heap.size w0 w' ∧ KeepBut w w' g none := by
 obtain ⟨l, i, x, hl, hi, hi2, d⟩ := hI
 obtain ⟨r, i', h', e, _, _, _, i0, i1⟩ := below_some l hl i x (wrap64 ((wrap64 (b - a)) + 1)) hi hi2
 refine (spec_l1From.calls g l i x a b (wrap64 (a + r)) i' h' w0 w d hB (by unfold spec_l1From.f; rw [e]; rfl)).mono ?_
 rintro e w' ⟨rfl, h1, h2, h3⟩
 exact ⟨_, rfl, ⟨l, i', h', hl, i0, i1, h1⟩, h2, h3⟩
theorem move_c (a b : Int) (h0 : 0 ≤ a) (h1 : a < 3) (h2 : 0 ≤ b) (h3 : b < 3) (w : World) : Calls Tryd.prog 47 #[.agg #[.int .i64 a, .int .i64 4, .int .i64 5, .int .i64 b]] w fun e w' => ∃ r : ByteArray, e = .returned (.string r) ∧ Below w.heap.size w w' := by
 have : (spec_ShowMove.f 40 a 4 5 b).isSome = true := by
  have ha : a = 0 ∨ a = 1 ∨ a = 2 := by omega
  have hb : b = 0 ∨ b = 1 ∨ b = 2 := by omega
  rcases ha with rfl | rfl | rfl <;> rcases hb with rfl | rfl | rfl <;> decide +kernel
 obtain ⟨r, h⟩ := Option.isSome_iff_exists.1 this
 refine (spec_ShowMove.calls 40 a 4 5 b r w h).mono ?_
 rintro e w' ⟨rfl, hb⟩
 exact ⟨r, rfl, hb⟩
set_option maxHeartbeats 8000000 in
set_option maxRecDepth 100000 in
theorem spec_l15DrawBlock.calls (g : Nat) (w0 w : World) (hI : Cs w0 w g) (hB : Below w0.heap.size w0 w) :
  Calls Tryd.prog 18 #[.pointer (some ⟨g, 0, none⟩)] w fun e w' => ∃ (v p pv pn b : Int) (V5 V6 mv : Value) (ms : List ByteArray), e = .returned (.agg #[.int .i64 v, .int .i64 p, .int .i64 pv, .int .i64 pn, V5, V6, mv, .int .i64 b]) ∧ Pf w' (fun k => w.heap.size ≤ k) V5 V6 ∧ Kd.R Kd.string 9 w' w.heap.size (fun _ => True) mv ms ∧ ms.length ≤ 5 ∧ Cs w0 w' g ∧ Below w0.heap.size w0 w' ∧ KeepBut w w' g none := by
 have eg1 : ∀ args w, (callFunc 44 args).run Tryd.prog w = .ok (.enter 44 args) w := enters_ Tryd.func44 (by kernel_rfl) rfl
 have eg2 : ∀ args w, (callFunc 45 args).run Tryd.prog w = .ok (.enter 45 args) w := enters_ Tryd.func45 (by kernel_rfl) rfl
 have eg3 : ∀ args w, (callFunc 46 args).run Tryd.prog w = .ok (.enter 46 args) w := enters_ Tryd.func46 (by kernel_rfl) rfl
 have eg4 : ∀ args w, (callFunc 22 args).run Tryd.prog w = .ok (.enter 22 args) w := enters_ Tryd.func22 (by kernel_rfl) rfl
 have eg5 : ∀ args w, (callFunc 48 args).run Tryd.prog w = .ok (.enter 48 args) w := enters_ Tryd.func48 (by kernel_rfl) rfl
 have hu26 := Tryd.underlying26
 have hu29 := Tryd.underlying29
 have HG := Aside0.mk (And.intro hI.lt hB.size)
 have HI := Aside0.mk hI
 have HB := Aside0.mk hB
 clear hI hB
 go_enter Tryd.func18, Tryd.ntmps18
 go_wp2_with (first | ((with_reducible refine gate_dst (N := 2) rfl ?_); refine box_event ?hg (N := 2) ?hd (cs := #[.int .i64 0, .int .i64 0, .int .i64 0, .int .i64 0, .slice none 0 0, .slice none 0 0, .slice none 0 0, .int .i64 0]) (t := 29) ?hr ?_; (case hd => rfl); (case hg => rfl); (case hr => first | (go_simp; done) | (go_simp; rfl)); intro g2 hg w1 hbox hb; have n1_ := Aside0.mk (HI.out.below hb); have n2_ := Aside0.mk (below_weaken HB.out HB.out.size hb); have HK := Aside0.mk (KeepBut.of_below hb g none); have BK2 := Aside0.mk hbox; have GE2 := Aside0.mk (Nat.le_of_eq hg.symm); clear HI HB hg hbox hb; have HI := n1_; have HB := n2_; clear n1_ n2_))
 refine (proof_c HI.out HB.out).mono ?_
 rintro e w2 ⟨pv, pn, A5, A6, n5, n6, c5, c6, rfl, hp, hi, hb, hk⟩
 have LT2 := Aside0.mk (blk_lt BK2.out)
 have n1_ := Aside0.mk (hk.blk BK2.out (by have := HG.out.1; have := GE2.out; omega) (by simp))
 have n2_ := Aside0.mk (KeepBut.trans HK.out hk (.inl rfl))
 have PF := Aside0.mk (hp.mono (ok' := fun k => w.heap.size ≤ k ∧ k ≠ g2) (fun k h1 _ => ⟨Nat.le_trans HK.out.1 h1, (by have := LT2.out; omega)⟩))
 clear BK2 HK HI HB
 have BK2 := n1_
 have CX := Aside0.mk (show Cx w0 w w2 w2 g from ⟨fun _ _ _ => rfl, hi, hb, n2_.out, HG.out.1, n2_.out.1, Nat.le_refl _, HG.out.2⟩)
 clear n1_ n2_ hi hb hk hp
 go_wp2_with fail
 have HA := Aside0.mk (below_alloc (Below.refl w2.heap.size w2) (.cells #[.int .i64 pv, .int .i64 pn, .slice A5 n5 c5, .slice A6 n6 c6] 26))
 have BK3 := Aside0.mk (heap_alloc_new w2 (.cells #[.int .i64 pv, .int .i64 pn, .slice A5 n5 c5, .slice A6 n6 c6] 26))
 have L3 := Aside0.mk (show w.heap.size ≤ w2.heap.size ∧ w2.heap.size < (w2.alloc (.cells #[.int .i64 pv, .int .i64 pn, .slice A5 n5 c5, .slice A6 n6 c6] 26)).heap.size from ⟨CX.out.le, blk_lt BK3.out⟩)
 have n1_ := Aside0.mk (PF.out.step (fun k _ hlt => HA.out.block k hlt))
 have n2_ := Aside0.mk (blk_below BK2.out HA.out)
 have n3_ := Aside0.mk (CX.out.below HA.out)
 have n4_ := Aside0.mk (show Cx w0 w (w2.alloc (.cells #[.int .i64 pv, .int .i64 pn, .slice A5 n5 c5, .slice A6 n6 c6] 26)) (w2.alloc (.cells #[.int .i64 pv, .int .i64 pn, .slice A5 n5 c5, .slice A6 n6 c6] 26)) g from ⟨fun _ _ _ => rfl, n3_.out.cs_, n3_.out.bel, n3_.out.kb, HG.out.1, n3_.out.kb.1, Nat.le_refl _, HG.out.2⟩)
 clear PF BK2 CX n3_ HA
 generalize (w2.alloc (.cells #[.int .i64 pv, .int .i64 pn, .slice A5 n5 c5, .slice A6 n6 c6] 26)) = w3 at BK3 L3 n1_ n2_ n4_ ⊢
 generalize w2.heap.size = g3 at BK3 L3 LT2 ⊢
 have PF := n1_
 have BK2 := n2_
 have n5_ := Aside0.mk (n4_.out.below (below_drew (Below.refl w3.heap.size w3)))
 have CX := n5_
 clear n1_ n2_ n4_ n5_
 refine start_ (n := 13) (S := fun w' => w'.cell? ⟨g3, 0, none⟩ = some (.int .i64 pv) ∧ w'.cell? ⟨g3, 1, none⟩ = some (.int .i64 pn) ∧ w'.cell? ⟨g3, 2, none⟩ = some (.slice A5 n5 c5) ∧ w'.cell? ⟨g3, 3, none⟩ = some (.slice A6 n6 c6)) (ds := [12]) (bA 13 0) (by kernel_rfl) rfl rfl ⟨(blk_cell ((CX.out.old g3 L3.out.1 L3.out.2).trans BK3.out) 0).trans rfl, (blk_cell ((CX.out.old g3 L3.out.1 L3.out.2).trans BK3.out) 1).trans rfl, (blk_cell ((CX.out.old g3 L3.out.1 L3.out.2).trans BK3.out) 2).trans rfl, (blk_cell ((CX.out.old g3 L3.out.1 L3.out.2).trans BK3.out) 3).trans rfl⟩ (fun hHeld => ?_)
 generalize w3.drew = wd at CX hHeld ⊢
 refine pure_ (i := 0) (N := some 8) (v := ?_) (a' := ?_) (bA 13 1) rfl rfl (by kernel_rfl) (fun _ _ _ h => h) (Or.inl ⟨(by rfl), ?_⟩) ?_ ?_
 rotate_left
 ·intro w'
  go_simp
  with_reducible rfl
 rotate_left
 ·simp only [sp_]
  rfl
 refine pure_ (i := 4) (N := some 12) (v := ?_) (a' := ?_) (bA 13 17) rfl rfl (by kernel_rfl) (fun _ _ _ h => h) (Or.inl ⟨(by rfl), ?_⟩) ?_ ?_
 rotate_left
 ·intro w'
  go_simp
  with_reducible rfl
 rotate_left
 ·simp only [sp_]
  rfl
 refine pure_ (i := 7) (N := some 15) (v := ?_) (a' := ?_) (bA 13 145) rfl rfl (by kernel_rfl) (fun _ _ _ h => h) (Or.inl ⟨(by rfl), ?_⟩) ?_ ?_
 rotate_left
 ·intro w'
  go_simp
  with_reducible rfl
 rotate_left
 ·simp only [sp_]
  rfl
 refine take_ (i := 1) (N := some 9) (v := ?_) (a' := ?_) (bA 13 147) rfl rfl (by kernel_rfl) (fun _ _ _ h => h) (Or.inl ⟨(by rfl), ?_⟩) hHeld ?_ ?_
 rotate_left
 ·rintro w' ⟨s0, s1, s2, s3⟩
  go_simp
  with_reducible rfl
 rotate_left
 ·simp only [sp_]
  rfl
 refine take_ (i := 8) (N := some 16) (v := ?_) (a' := ?_) (bA 13 403) rfl rfl (by kernel_rfl) (fun _ _ _ h => h) (Or.inl ⟨(by rfl), ?_⟩) hHeld ?_ ?_
 rotate_left
 ·rintro w' ⟨s0, s1, s2, s3⟩
  go_simp
  with_reducible rfl
 rotate_left
 ·simp only [sp_]
  rfl
 refine take_ (i := 9) (N := some 17) (v := ?_) (a' := ?_) (bA 13 915) rfl rfl (by kernel_rfl) (fun _ _ _ h => h) (Or.inl ⟨(by rfl), ?_⟩) hHeld ?_ ?_
 rotate_left
 ·rintro w' ⟨s0, s1, s2, s3⟩
  go_simp
  with_reducible rfl
 rotate_left
 ·simp only [sp_]
  rfl
 refine join_ (σ := Int × Int × Nat) 1 (bA 13 4095) (fun s_ => [(10, .int .i64 s_.1), (13, .int .i64 s_.2.1), (4, .pointer (some ⟨s_.2.2, 0, none⟩)), (11, .int .i64 (wrap64 (s_.1 + 1))), (14, .int .i64 (wrap64 ((wrap64 (s_.1 + 1)) + s_.2.1))), (18, .agg #[.int .i64 (wrap64 ((wrap64 (s_.1 + 1)) + s_.2.1)), .int .i64 pn, .int .i64 pv, .int .i64 pn, .slice A5 n5 c5, .slice A6 n6 c6, .slice none 0 0, .int .i64 0])]) (fun s_ w' => Bx w0 w w3 w' g s_.2.2 #[.int .i64 0, .int .i64 0, .int .i64 0, .int .i64 0, .slice none 0 0, .slice none 0 0, .slice none 0 0, .int .i64 0] (.slice none 0 0) 0) ?_ ?_
 rotate_left
 ·intro hCont
  refine two_ (i := 2) (j := 11) (Ni := some 10) (Nj := some 4) (bA 13 919) (bA 13 2963) rfl rfl rfl rfl (by kernel_rfl) (by decide) (by decide) (fun K hK => ?_) (fun K hK => ?_)
  ·skip
   refine goes_ Tryd.func45 (by kernel_rfl) rfl #[.int .i64 0, .int .i64 pv] (by rfl) rfl rfl Z18 ?_
   with_reducible refine (max_c 0 pv _).mono ?_
   rintro e w4 ⟨r10, rfl, hb⟩
   refine ⟨_, rfl, ?_⟩
   have n1_ := Aside0.mk (CX.out.below hb)
   clear CX
   have CX := n1_
   clear n1_
   clear hb
   refine hK.out _ _ ⟨(blk_cell ((CX.out.old g3 L3.out.1 L3.out.2).trans BK3.out) 0).trans rfl, (blk_cell ((CX.out.old g3 L3.out.1 L3.out.2).trans BK3.out) 1).trans rfl, (blk_cell ((CX.out.old g3 L3.out.1 L3.out.2).trans BK3.out) 2).trans rfl, (blk_cell ((CX.out.old g3 L3.out.1 L3.out.2).trans BK3.out) 3).trans rfl⟩ (fun hHeld => ?_)
   clear hK K
   refine norm_ (a' := ?_) ?_ ?_
   rotate_left
   ·show Act.put _ (some 10) _ = _
    simp only [sp_]
    rfl
   refine pure_ (i := 3) (N := some 11) (v := ?_) (a' := ?_) (bA 13 927) rfl rfl (by kernel_rfl) (fun _ _ _ h => h) (Or.inl ⟨(by rfl), ?_⟩) ?_ ?_
   rotate_left
   ·intro w'
    go_simp
    with_reducible rfl
   rotate_left
   ·simp only [sp_]
    rfl
   refine two_ (i := 5) (j := 11) (Ni := some 13) (Nj := some 4) (bA 13 959) (bA 13 2975) rfl rfl rfl rfl (by kernel_rfl) (by decide) (by decide) (fun K hK => ?_) (fun K hK => ?_)
   ·skip
    refine goes_ Tryd.func46 (by kernel_rfl) rfl #[.pointer (some ⟨g, 0, none⟩), .int .i64 3] (by rfl) rfl rfl Z18 ?_
    with_reducible refine (below_c 3 (CX.out.cs_) (CX.out.bel)).mono ?_
    rintro e w5 ⟨r13, rfl, _, _, hi, hb, hk⟩
    refine ⟨_, rfl, ?_⟩
    have n1_ := Aside0.mk (CX.out.keep hi hb hk)
    clear CX
    have CX := n1_
    clear n1_
    clear hi hb hk
    refine hK.out _ _ ⟨(blk_cell ((CX.out.old g3 L3.out.1 L3.out.2).trans BK3.out) 0).trans rfl, (blk_cell ((CX.out.old g3 L3.out.1 L3.out.2).trans BK3.out) 1).trans rfl, (blk_cell ((CX.out.old g3 L3.out.1 L3.out.2).trans BK3.out) 2).trans rfl, (blk_cell ((CX.out.old g3 L3.out.1 L3.out.2).trans BK3.out) 3).trans rfl⟩ (fun hHeld => ?_)
    clear hK K
    refine norm_ (a' := ?_) ?_ ?_
    rotate_left
    ·show Act.put _ (some 13) _ = _
     simp only [sp_]
     rfl
    refine pure_ (i := 6) (N := some 14) (v := ?_) (a' := ?_) (bA 13 1023) rfl rfl (by kernel_rfl) (fun _ _ _ h => h) (Or.inl ⟨(by rfl), ?_⟩) ?_ ?_
    rotate_left
    ·intro w'
     go_simp
     with_reducible rfl
    rotate_left
    ·simp only [sp_]
     rfl
    refine pure_ (i := 10) (N := some 18) (v := ?_) (a' := ?_) (bA 13 2047) rfl rfl (by kernel_rfl) (fun _ _ _ h => h) (Or.inl ⟨(by rfl), ?_⟩) ?_ ?_
    rotate_left
    ·intro w'
     go_simp
     with_reducible rfl
    rotate_left
    ·simp only [sp_]
     rfl
    refine one_ (i := 11) (N := some 4) (bA 13 4095) rfl rfl (by kernel_rfl) (by decide) (fun K hK => ?_)
    refine value_ (w1 := ?_) (v := ?_) (by rfl) rfl ?_ ?_
    rotate_left 2
    ·go_simp
     constructor
     ·rfl
     ·rfl
    have BX := Aside0.mk (Bx.new CX.out #[.int .i64 0, .int .i64 0, .int .i64 0, .int .i64 0, .slice none 0 0, .slice none 0 0, .slice none 0 0, .int .i64 0])
    refine hK.out _ _ ⟨(blk_cell ((BX.out.cx.old g3 L3.out.1 L3.out.2).trans BK3.out) 0).trans rfl, (blk_cell ((BX.out.cx.old g3 L3.out.1 L3.out.2).trans BK3.out) 1).trans rfl, (blk_cell ((BX.out.cx.old g3 L3.out.1 L3.out.2).trans BK3.out) 2).trans rfl, (blk_cell ((BX.out.cx.old g3 L3.out.1 L3.out.2).trans BK3.out) 3).trans rfl⟩ (fun hHeld => ?_)
    clear hK K
    refine norm_ (a' := ?_) ?_ ?_
    rotate_left
    ·show Act.put _ (some 4) _ = _
     simp only [sp_]
     rfl
    exact norm_ (by simp only [putAll, Act.put, List.setIfInBounds_toArray, List.set_cons_zero, List.set_cons_succ]) (hCont (r10, r13, w5.heap.size) _ BX.out)
   ·skip
    refine value_ (w1 := ?_) (v := ?_) (by rfl) rfl ?_ ?_
    rotate_left 2
    ·go_simp
     constructor
     ·rfl
     ·rfl
    have BX := Aside0.mk (Bx.new CX.out #[.int .i64 0, .int .i64 0, .int .i64 0, .int .i64 0, .slice none 0 0, .slice none 0 0, .slice none 0 0, .int .i64 0])
    refine hK.out _ _ ⟨(blk_cell ((BX.out.cx.old g3 L3.out.1 L3.out.2).trans BK3.out) 0).trans rfl, (blk_cell ((BX.out.cx.old g3 L3.out.1 L3.out.2).trans BK3.out) 1).trans rfl, (blk_cell ((BX.out.cx.old g3 L3.out.1 L3.out.2).trans BK3.out) 2).trans rfl, (blk_cell ((BX.out.cx.old g3 L3.out.1 L3.out.2).trans BK3.out) 3).trans rfl⟩ (fun hHeld => ?_)
    clear hK K
    refine norm_ (a' := ?_) ?_ ?_
    rotate_left
    ·show Act.put _ (some 4) _ = _
     simp only [sp_]
     rfl
    refine one_ (i := 5) (N := some 13) (bA 13 3007) rfl rfl (by kernel_rfl) (by decide) (fun K hK => ?_)
    refine goes_ Tryd.func46 (by kernel_rfl) rfl #[.pointer (some ⟨g, 0, none⟩), .int .i64 3] (by rfl) rfl rfl Z18 ?_
    with_reducible refine (below_c 3 (BX.out.cx.cs_) (BX.out.cx.bel)).mono ?_
    rintro e w5 ⟨r13, rfl, _, _, hi, hb, hk⟩
    refine ⟨_, rfl, ?_⟩
    have n1_ := Aside0.mk (BX.out.keep hi hb hk)
    clear BX
    have BX := n1_
    clear n1_
    clear hi hb hk
    refine hK.out _ _ ⟨(blk_cell ((BX.out.cx.old g3 L3.out.1 L3.out.2).trans BK3.out) 0).trans rfl, (blk_cell ((BX.out.cx.old g3 L3.out.1 L3.out.2).trans BK3.out) 1).trans rfl, (blk_cell ((BX.out.cx.old g3 L3.out.1 L3.out.2).trans BK3.out) 2).trans rfl, (blk_cell ((BX.out.cx.old g3 L3.out.1 L3.out.2).trans BK3.out) 3).trans rfl⟩ (fun hHeld => ?_)
    clear hK K
    refine norm_ (a' := ?_) ?_ ?_
    rotate_left
    ·show Act.put _ (some 13) _ = _
     simp only [sp_]
     rfl
    refine pure_ (i := 6) (N := some 14) (v := ?_) (a' := ?_) (bA 13 3071) rfl rfl (by kernel_rfl) (fun _ _ _ h => h) (Or.inl ⟨(by rfl), ?_⟩) ?_ ?_
    rotate_left
    ·intro w'
     go_simp
     with_reducible rfl
    rotate_left
    ·simp only [sp_]
     rfl
    refine pure_ (i := 10) (N := some 18) (v := ?_) (a' := ?_) (bA 13 4095) rfl rfl (by kernel_rfl) (fun _ _ _ h => h) (Or.inl ⟨(by rfl), ?_⟩) ?_ ?_
    rotate_left
    ·intro w'
     go_simp
     with_reducible rfl
    rotate_left
    ·simp only [sp_]
     rfl
    exact norm_ (by simp only [putAll, Act.put, List.setIfInBounds_toArray, List.set_cons_zero, List.set_cons_succ]) (hCont (r10, r13, w4.heap.size) _ BX.out)
  ·skip
   refine value_ (w1 := ?_) (v := ?_) (by rfl) rfl ?_ ?_
   rotate_left 2
   ·go_simp
    constructor
    ·rfl
    ·rfl
   have BX := Aside0.mk (Bx.new CX.out #[.int .i64 0, .int .i64 0, .int .i64 0, .int .i64 0, .slice none 0 0, .slice none 0 0, .slice none 0 0, .int .i64 0])
   refine hK.out _ _ ⟨(blk_cell ((BX.out.cx.old g3 L3.out.1 L3.out.2).trans BK3.out) 0).trans rfl, (blk_cell ((BX.out.cx.old g3 L3.out.1 L3.out.2).trans BK3.out) 1).trans rfl, (blk_cell ((BX.out.cx.old g3 L3.out.1 L3.out.2).trans BK3.out) 2).trans rfl, (blk_cell ((BX.out.cx.old g3 L3.out.1 L3.out.2).trans BK3.out) 3).trans rfl⟩ (fun hHeld => ?_)
   clear hK K
   refine norm_ (a' := ?_) ?_ ?_
   rotate_left
   ·show Act.put _ (some 4) _ = _
    simp only [sp_]
    rfl
   refine one_ (i := 2) (N := some 10) (bA 13 2967) rfl rfl (by kernel_rfl) (by decide) (fun K hK => ?_)
   refine goes_ Tryd.func45 (by kernel_rfl) rfl #[.int .i64 0, .int .i64 pv] (by rfl) rfl rfl Z18 ?_
   with_reducible refine (max_c 0 pv _).mono ?_
   rintro e w4 ⟨r10, rfl, hb⟩
   refine ⟨_, rfl, ?_⟩
   have n1_ := Aside0.mk (BX.out.below hb)
   clear BX
   have BX := n1_
   clear n1_
   clear hb
   refine hK.out _ _ ⟨(blk_cell ((BX.out.cx.old g3 L3.out.1 L3.out.2).trans BK3.out) 0).trans rfl, (blk_cell ((BX.out.cx.old g3 L3.out.1 L3.out.2).trans BK3.out) 1).trans rfl, (blk_cell ((BX.out.cx.old g3 L3.out.1 L3.out.2).trans BK3.out) 2).trans rfl, (blk_cell ((BX.out.cx.old g3 L3.out.1 L3.out.2).trans BK3.out) 3).trans rfl⟩ (fun hHeld => ?_)
   clear hK K
   refine norm_ (a' := ?_) ?_ ?_
   rotate_left
   ·show Act.put _ (some 10) _ = _
    simp only [sp_]
    rfl
   refine pure_ (i := 3) (N := some 11) (v := ?_) (a' := ?_) (bA 13 2975) rfl rfl (by kernel_rfl) (fun _ _ _ h => h) (Or.inl ⟨(by rfl), ?_⟩) ?_ ?_
   rotate_left
   ·intro w'
    go_simp
    with_reducible rfl
   rotate_left
   ·simp only [sp_]
    rfl
   refine one_ (i := 5) (N := some 13) (bA 13 3007) rfl rfl (by kernel_rfl) (by decide) (fun K hK => ?_)
   refine goes_ Tryd.func46 (by kernel_rfl) rfl #[.pointer (some ⟨g, 0, none⟩), .int .i64 3] (by rfl) rfl rfl Z18 ?_
   with_reducible refine (below_c 3 (BX.out.cx.cs_) (BX.out.cx.bel)).mono ?_
   rintro e w5 ⟨r13, rfl, _, _, hi, hb, hk⟩
   refine ⟨_, rfl, ?_⟩
   have n1_ := Aside0.mk (BX.out.keep hi hb hk)
   clear BX
   have BX := n1_
   clear n1_
   clear hi hb hk
   refine hK.out _ _ ⟨(blk_cell ((BX.out.cx.old g3 L3.out.1 L3.out.2).trans BK3.out) 0).trans rfl, (blk_cell ((BX.out.cx.old g3 L3.out.1 L3.out.2).trans BK3.out) 1).trans rfl, (blk_cell ((BX.out.cx.old g3 L3.out.1 L3.out.2).trans BK3.out) 2).trans rfl, (blk_cell ((BX.out.cx.old g3 L3.out.1 L3.out.2).trans BK3.out) 3).trans rfl⟩ (fun hHeld => ?_)
   clear hK K
   refine norm_ (a' := ?_) ?_ ?_
   rotate_left
   ·show Act.put _ (some 13) _ = _
    simp only [sp_]
    rfl
   refine pure_ (i := 6) (N := some 14) (v := ?_) (a' := ?_) (bA 13 3071) rfl rfl (by kernel_rfl) (fun _ _ _ h => h) (Or.inl ⟨(by rfl), ?_⟩) ?_ ?_
   rotate_left
   ·intro w'
    go_simp
    with_reducible rfl
   rotate_left
   ·simp only [sp_]
    rfl
   refine pure_ (i := 10) (N := some 18) (v := ?_) (a' := ?_) (bA 13 4095) rfl rfl (by kernel_rfl) (fun _ _ _ h => h) (Or.inl ⟨(by rfl), ?_⟩) ?_ ?_
   rotate_left
   ·intro w'
    go_simp
    with_reducible rfl
   rotate_left
   ·simp only [sp_]
    rfl
   exact norm_ (by simp only [putAll, Act.put, List.setIfInBounds_toArray, List.set_cons_zero, List.set_cons_succ]) (hCont (r10, r13, wd.heap.size) _ BX.out)
 rintro ⟨r10, r13, gb⟩ wj hF
 have BX := Aside0.mk hF
 clear hF CX
 have hHeld : wj.cell? ⟨g3, 0, none⟩ = some (.int .i64 pv) ∧ wj.cell? ⟨g3, 1, none⟩ = some (.int .i64 pn) ∧ wj.cell? ⟨g3, 2, none⟩ = some (.slice A5 n5 c5) ∧ wj.cell? ⟨g3, 3, none⟩ = some (.slice A6 n6 c6) := ⟨(blk_cell ((BX.out.cx.old g3 L3.out.1 L3.out.2).trans BK3.out) 0).trans rfl, (blk_cell ((BX.out.cx.old g3 L3.out.1 L3.out.2).trans BK3.out) 1).trans rfl, (blk_cell ((BX.out.cx.old g3 L3.out.1 L3.out.2).trans BK3.out) 2).trans rfl, (blk_cell ((BX.out.cx.old g3 L3.out.1 L3.out.2).trans BK3.out) 3).trans rfl⟩
 have hs0 := (BX.out.at_ 0).trans rfl
 have hs1 := (BX.out.at_ 1).trans rfl
 have hs2 := (BX.out.at_ 2).trans rfl
 have hs3 := (BX.out.at_ 3).trans rfl
 have hs4 := (BX.out.at_ 4).trans rfl
 have hs5 := (BX.out.at_ 5).trans rfl
 have hs6 := (BX.out.at_ 6).trans rfl
 have hs7 := (BX.out.at_ 7).trans rfl
 have hsf0 := blk_frozen BX.out.bk 0
 have hsf1 := blk_frozen BX.out.bk 1
 have hsf2 := blk_frozen BX.out.bk 2
 have hsf3 := blk_frozen BX.out.bk 3
 have hsf4 := blk_frozen BX.out.bk 4
 have hsf5 := blk_frozen BX.out.bk 5
 have hsf6 := blk_frozen BX.out.bk 6
 have hsf7 := blk_frozen BX.out.bk 7
 refine norm_ (a' := ?_) ?_ ?_
 rotate_left
 ·simp only [putAll, Act.put, List.setIfInBounds_toArray, List.set_cons_zero, List.set_cons_succ]
  rfl
 refine last_ (i := 12) (N := none) (bA 13 8191) rfl rfl (by kernel_rfl) (by decide) (fun K hK => ?_)
 refine skip_ (w1 := ?_) (by rfl) rfl ?_ ?_
 rotate_left
 ·go_simp
  rfl
 refine hK.out _ _ ?_
 clear hK K
 refine done_ (by kernel_rfl) ?_
 have n1_ := Aside0.mk ((((((((BX.out.put 0 (.int .i64 (wrap64 ((wrap64 (r10 + 1)) + r13))) (cs' := #[.int .i64 (wrap64 ((wrap64 (r10 + 1)) + r13)), .int .i64 0, .int .i64 0, .int .i64 0, .slice none 0 0, .slice none 0 0, .slice none 0 0, .int .i64 0]) rfl).put 1 (.int .i64 pn) (cs' := #[.int .i64 (wrap64 ((wrap64 (r10 + 1)) + r13)), .int .i64 pn, .int .i64 0, .int .i64 0, .slice none 0 0, .slice none 0 0, .slice none 0 0, .int .i64 0]) rfl).put 2 (.int .i64 pv) (cs' := #[.int .i64 (wrap64 ((wrap64 (r10 + 1)) + r13)), .int .i64 pn, .int .i64 pv, .int .i64 0, .slice none 0 0, .slice none 0 0, .slice none 0 0, .int .i64 0]) rfl).put 3 (.int .i64 pn) (cs' := #[.int .i64 (wrap64 ((wrap64 (r10 + 1)) + r13)), .int .i64 pn, .int .i64 pv, .int .i64 pn, .slice none 0 0, .slice none 0 0, .slice none 0 0, .int .i64 0]) rfl).put 4 (.slice A5 n5 c5) (cs' := #[.int .i64 (wrap64 ((wrap64 (r10 + 1)) + r13)), .int .i64 pn, .int .i64 pv, .int .i64 pn, .slice A5 n5 c5, .slice none 0 0, .slice none 0 0, .int .i64 0]) rfl).put 5 (.slice A6 n6 c6) (cs' := #[.int .i64 (wrap64 ((wrap64 (r10 + 1)) + r13)), .int .i64 pn, .int .i64 pv, .int .i64 pn, .slice A5 n5 c5, .slice A6 n6 c6, .slice none 0 0, .int .i64 0]) rfl).put 6 (.slice none 0 0) (cs' := #[.int .i64 (wrap64 ((wrap64 (r10 + 1)) + r13)), .int .i64 pn, .int .i64 pv, .int .i64 pn, .slice A5 n5 c5, .slice A6 n6 c6, .slice none 0 0, .int .i64 0]) rfl).put 7 (.int .i64 0) (cs' := #[.int .i64 (wrap64 ((wrap64 (r10 + 1)) + r13)), .int .i64 pn, .int .i64 pv, .int .i64 pn, .slice A5 n5 c5, .slice A6 n6 c6, .slice none 0 0, .int .i64 0]) rfl)
 clear BX hHeld hs0 hsf0 hs1 hsf1 hs2 hsf2 hs3 hsf3 hs4 hsf4 hs5 hsf5 hs6 hsf6 hs7 hsf7
 generalize ((((((((wj.setCell ⟨gb, 0, none⟩ (.int .i64 (wrap64 ((wrap64 (r10 + 1)) + r13)))).setCell ⟨gb, 1, none⟩ (.int .i64 pn)).setCell ⟨gb, 2, none⟩ (.int .i64 pv)).setCell ⟨gb, 3, none⟩ (.int .i64 pn)).setCell ⟨gb, 4, none⟩ (.slice A5 n5 c5)).setCell ⟨gb, 5, none⟩ (.slice A6 n6 c6)).setCell ⟨gb, 6, none⟩ (.slice none 0 0)).setCell ⟨gb, 7, none⟩ (.int .i64 0)) = w6 at n1_ ⊢
 have BX := n1_
 clear n1_
 generalize (wrap64 ((wrap64 (r10 + 1)) + r13)) = v at BX ⊢
 have hs0 := (BX.out.at_ 0).trans rfl
 have hs7 := (BX.out.at_ 7).trans rfl
 have hsf0 := blk_frozen BX.out.bk 0
 have hsf7 := blk_frozen BX.out.bk 7
 go_wp2_with fail
 clear hs0 hs7 hsf0 hsf7
 have n1_ := Aside0.mk (BX.out.put 7 (.int .i64 (v.tmod 4)) (cs' := #[.int .i64 v, .int .i64 pn, .int .i64 pv, .int .i64 pn, .slice A5 n5 c5, .slice A6 n6 c6, .slice none 0 0, .int .i64 (v.tmod 4)]) rfl)
 clear BX
 generalize (w6.setCell ⟨gb, 7, none⟩ (.int .i64 (v.tmod 4))) = w7 at n1_ ⊢
 have BX := n1_
 clear n1_
 generalize v.tmod 4 = b at BX ⊢
 refine (below_c 4 BX.out.cx.cs_ BX.out.cx.bel).mono ?_
 rintro e w9 ⟨n0, rfl, r0_, r1_, hi, hb, hk⟩
 have Rn0 := Aside0.mk (And.intro r0_ r1_)
 clear r0_ r1_
 have n1_ := Aside0.mk (BX.out.keep hi hb hk)
 clear BX
 have BX := n1_
 clear n1_
 clear hi hb hk
 try go_wp2
 go_loopg [5] 5 (fun kq v5 w' => ∃ (n : Int) (mv : Value) (m : Nat), v5 = .int .i64 n ∧ Aside0 (0 ≤ n ∧ n < kq ∧ (m : Int) + n ≤ 3) ∧ Aside0 (Bx w0 w w3 w' g gb #[.int .i64 v, .int .i64 pn, .int .i64 pv, .int .i64 pn, .slice A5 n5 c5, .slice A6 n6 c6, mv, .int .i64 b] mv m))
 case atStart => exact ⟨n0, .slice none 0 0, 0, rfl, ⟨(by have := Rn0.out.1; have := Rn0.out.2 (by decide); omega)⟩, BX⟩
 case round =>
  clear BX Rn0
  obtain ⟨n, mv, m, rfl, HN, BX⟩ := hrel
  by_cases c1 : n > 0
  ·have c1b : decide (n > 0) = true := decide_eq_true c1
   have HP := Aside0.mk c1
   clear c1
   go_wp2_with fail
   have n1_ := Aside0.mk (BX.out.below (below_drew (Below.refl _ _)))
   clear BX
   have BX := n1_
   clear n1_
   refine start_ (n := 12) (S := fun w' => w'.cell? ⟨gb, 6, none⟩ = some (mv)) (ds := [9, 11]) (bA 12 0) (by kernel_rfl) rfl rfl ((BX.out.at_ 6).trans rfl) (fun hHeld => ?_)
   generalize wr.drew = wd at BX hHeld ⊢
   refine pure_ (i := 0) (N := some 29) (v := ?_) (a' := ?_) (bA 12 1) rfl rfl (by kernel_rfl) (fun _ _ _ h => h) (Or.inl ⟨(by rfl), ?_⟩) ?_ ?_
   rotate_left
   ·intro w'
    go_simp
    with_reducible rfl
   rotate_left
   ·simp only [sp_]
    rfl
   refine pure_ (i := 2) (N := some 31) (v := ?_) (a' := ?_) (bA 12 5) rfl rfl (by kernel_rfl) (fun _ _ _ h => h) (Or.inl ⟨(by rfl), ?_⟩) ?_ ?_
   rotate_left
   ·intro w'
    go_simp
    with_reducible rfl
   rotate_left
   ·simp only [sp_]
    rfl
   refine pure_ (i := 4) (N := some 33) (v := ?_) (a' := ?_) (bA 12 21) rfl rfl (by kernel_rfl) (fun _ _ _ h => h) (Or.inl ⟨(by rfl), ?_⟩) ?_ ?_
   rotate_left
   ·intro w'
    go_simp
    with_reducible rfl
   rotate_left
   ·simp only [sp_]
    rfl
   refine take_ (i := 1) (N := some 30) (v := ?_) (a' := ?_) (bA 12 23) rfl rfl (by kernel_rfl) (fun _ _ _ h => h) (Or.inl ⟨(by rfl), ?_⟩) hHeld ?_ ?_
   rotate_left
   ·intro w' s0
    go_simp
    with_reducible rfl
   rotate_left
   ·simp only [sp_]
    rfl
   refine one_ (i := 3) (N := some 32) (bA 12 31) rfl rfl (by kernel_rfl) (by decide) (fun K hK => ?_)
   refine goes_ Tryd.func46 (by kernel_rfl) rfl #[.pointer (some ⟨g, 0, none⟩), .int .i64 3] (by rfl) rfl rfl Z18 ?_
   with_reducible refine (below_c 3 BX.out.cx.cs_ BX.out.cx.bel).mono ?_
   rintro e wa ⟨ra, rfl, x0_, x1_, hi, hb, hk⟩
   refine ⟨_, rfl, ?_⟩
   have Xra := Aside0.mk (And.intro x0_ (x1_ (by decide)))
   have n1_ := Aside0.mk (BX.out.keep hi hb hk)
   clear BX
   have BX := n1_
   clear n1_
   clear hi hb hk x0_ x1_
   refine hK.out _ _ ((BX.out.at_ 6).trans rfl) (fun hHeld => ?_)
   clear hK K
   refine norm_ (a' := ?_) ?_ ?_
   rotate_left
   ·show Act.put _ (some 32) _ = _
    simp only [sp_]
    rfl
   refine one_ (i := 5) (N := some 34) (bA 12 63) rfl rfl (by kernel_rfl) (by decide) (fun K hK => ?_)
   refine goes_ Tryd.func46 (by kernel_rfl) rfl #[.pointer (some ⟨g, 0, none⟩), .int .i64 3] (by rfl) rfl rfl Z18 ?_
   with_reducible refine (below_c 3 BX.out.cx.cs_ BX.out.cx.bel).mono ?_
   rintro e wb ⟨rb, rfl, x0_, x1_, hi, hb, hk⟩
   refine ⟨_, rfl, ?_⟩
   have Xrb := Aside0.mk (And.intro x0_ (x1_ (by decide)))
   have n1_ := Aside0.mk (BX.out.keep hi hb hk)
   clear BX
   have BX := n1_
   clear n1_
   clear hi hb hk x0_ x1_
   refine hK.out _ _ ((BX.out.at_ 6).trans rfl) (fun hHeld => ?_)
   clear hK K
   refine norm_ (a' := ?_) ?_ ?_
   rotate_left
   ·show Act.put _ (some 34) _ = _
    simp only [sp_]
    rfl
   refine pure_ (i := 6) (N := some 35) (v := ?_) (a' := ?_) (bA 12 127) rfl rfl (by kernel_rfl) (fun _ _ _ h => h) (Or.inl ⟨(by rfl), ?_⟩) ?_ ?_
   rotate_left
   ·intro w'
    go_simp
    with_reducible rfl
   rotate_left
   ·simp only [sp_]
    rfl
   refine one_ (i := 7) (N := some 36) (bA 12 255) rfl rfl (by kernel_rfl) (by decide) (fun K hK => ?_)
   refine goes_ Tryd.func47 (by kernel_rfl) rfl #[.agg #[.int .i64 ra, .int .i64 4, .int .i64 5, .int .i64 rb]] (by rfl) rfl rfl Z18 ?_
   with_reducible refine (move_c ra rb Xra.out.1 Xra.out.2 Xrb.out.1 Xrb.out.2 _).mono ?_
   rintro e wc ⟨s36, rfl, hb⟩
   refine ⟨_, rfl, ?_⟩
   have n1_ := Aside0.mk (BX.out.below hb)
   clear BX
   have BX := n1_
   clear n1_
   clear hb
   refine hK.out _ _ ((BX.out.at_ 6).trans rfl) (fun hHeld => ?_)
   clear hK K
   refine norm_ (a' := ?_) ?_ ?_
   rotate_left
   ·show Act.put _ (some 36) _ = _
    simp only [sp_]
    rfl
   refine one_ (i := 8) (N := some 37) (bA 12 511) rfl rfl (by kernel_rfl) (by decide) (fun K hK => ?_)
   refine value_ (w1 := ?_) (v := ?_) (by rfl) rfl ?_ ?_
   rotate_left 2
   ·go_simp
    constructor
    ·rfl
    ·rfl
   obtain ⟨ms, hms, hml⟩ := BX.out.mvs
   refine hK.out _ _ ((blk_cell (blk_alloc BX.out.bk _) 6).trans rfl) (fun hHeld => ?_)
   clear hK K
   refine norm_ (a' := ?_) ?_ ?_
   rotate_left
   ·show Act.put _ (some 37) _ = _
    simp only [sp_]
    rfl
   refine last_ (i := 9) (N := some 38) (bA 12 1023) rfl rfl (by kernel_rfl) (by decide) (fun K hK => ?_)
   refine Kd.R_append_step Kd.string (w0 := _) w3.heap.size (by rfl) (.tmp 30) (.tmp 37) 27 9 (.string ⟨#[]⟩) 16 rfl Tryd.underlying27 info9 rfl (by decide) (by omega) mv ms s36 [.string s36] (fun _ => True) (fun _ => False) rfl rfl ?aP (fun _ hk => hk.elim) (fun _ _ => trivial) hms (Below.refl _ _) BX.out.cx.sz ?aL ?_
   (case aP => exact rfl)
   (case aL => have := HN.out; omega)
   intro v8 w8 ho hb hg hat
   obtain ⟨Am, lm, cm, rfl⟩ : ∃ A l c, v8 = .slice A l c := let ⟨A, c, h_⟩ := Kd.R_slice ho; ⟨A, _, c, h_⟩
   have n1_ := Aside0.mk (BX.out.app (m' := m + 1) ho (by rw [List.length_append]; simp only [List.length_cons, List.length_nil]; omega) hb hg)
   clear BX ho hb hg hat
   have BX := n1_
   clear n1_
   have hs6 : w8.cell? ⟨gb, 6, none⟩ = some mv := (BX.out.at_ 6).trans rfl
   have hsf6 := blk_frozen BX.out.bk 6
   refine hK.out _ _ ?_
   clear hK K
   refine norm_ (a' := ?_) ?_ ?_
   rotate_left
   ·show Act.put _ (some 38) _ = _
    simp only [sp_]
    rfl
   refine pure_ (i := 10) (N := some 39) (v := ?_) (a' := ?_) (bA 12 2047) rfl rfl (by kernel_rfl) (fun _ _ _ h => h) (Or.inl ⟨(by rfl), ?_⟩) ?_ ?_
   rotate_left
   ·intro w'
    go_simp
    with_reducible rfl
   rotate_left
   ·simp only [sp_]
    rfl
   refine last_ (i := 11) (N := none) (bA 12 4095) rfl rfl (by kernel_rfl) (by decide) (fun K hK => ?_)
   refine skip_ (w1 := ?_) (by rfl) rfl ?_ ?_
   rotate_left
   ·go_simp
    rfl
   refine hK.out _ _ ?_
   clear hK K
   refine done_ (by kernel_rfl) ?_
   try go_wp2
   have n1_ := Aside0.mk (BX.out.put 6 (.slice Am lm cm) (cs' := #[.int .i64 v, .int .i64 pn, .int .i64 pv, .int .i64 pn, .slice A5 n5 c5, .slice A6 n6 c6, .slice Am lm cm, .int .i64 b]) rfl)
   clear BX
   generalize (w8.setCell ⟨gb, 6, none⟩ (.slice Am lm cm)) = w9b at n1_ ⊢
   have BX := n1_
   clear n1_
   have e1 := Aside0.mk (show wrap64 (n - 1) = n - 1 from (by have := HN.out; rw [w64 (by omega) (by omega)]))
   go_roundg (gk - 1)
   case measure => have := HN.out; have := HP.out; omega
   case rel => exact ⟨_, _, _, rfl, ⟨(by rw [e1.out]; have := HN.out; have := HP.out; omega)⟩, BX⟩
  ·have c1b : decide (n > 0) = false := decide_eq_false c1
   clear c1
   go_wp2_with fail
   refine (once_c 12 BX.out.cx.cs_ BX.out.cx.bel).mono ?_
   rintro e wo ⟨o, rfl, hi, hb, hk⟩
   have n1_ := Aside0.mk (BX.out.keep hi hb hk)
   clear BX
   have BX := n1_
   clear n1_
   clear hi hb hk
   go_upto_if 41 with (fail)
   go_cut [5] (fun v5 wc => ∃ (v p b : Int) (mv : Value) (m : Nat), v5 = .int .i64 n ∧ Aside0 (Bx w0 w w3 wc g gb #[.int .i64 v, .int .i64 p, .int .i64 pv, .int .i64 pn, .slice A5 n5 c5, .slice A6 n6 c6, mv, .int .i64 b] mv m) ∧ Aside0 (m ≤ 5))
   case first =>
    cases o
    ·go_wp2
     go_meet
     case rel => exact ⟨_, _, _, _, _, rfl, BX, ⟨(by have := HN.out; omega)⟩⟩
    ·go_wp2_with fail
     refine (below_c 4 BX.out.cx.cs_ BX.out.cx.bel).mono ?_
     rintro e we ⟨q, rfl, r0_, r1_, hi, hb, hk⟩
     have Rq := Aside0.mk (And.intro r0_ r1_)
     clear r0_ r1_
     have n1_ := Aside0.mk (BX.out.keep hi hb hk)
     clear BX
     have BX := n1_
     clear n1_
     clear hi hb hk
     have HE := Aside0.mk BX.out.cx.kb.1
     obtain ⟨q0, q4⟩ := Rq.out
     replace q4 := q4 (by decide)
     clear Rq
     by_cases d0 : q = 0
     ·subst d0
      clear q0 q4
      go_wp2_with fail
      have n2_ := Aside0.mk (heap_alloc_new we (.cells #[.int .i64 (-1), .int .i64 0, .int .i64 100000, .int .i64 100001, .int .i64 1099511627777] 2))
      have n1_ := Aside0.mk (BX.out.below (below_alloc (Below.refl we.heap.size we) (.cells #[.int .i64 (-1), .int .i64 0, .int .i64 100000, .int .i64 100001, .int .i64 1099511627777] 2)))
      clear BX
      have BX := n1_
      clear n1_
      have n3_ := Aside0.mk (show we.heap.size ≠ g from (by have := BX.out.cx.lt; have := HE.out; omega))
      generalize we.alloc (.cells #[.int .i64 (-1), .int .i64 0, .int .i64 100000, .int .i64 100001, .int .i64 1099511627777] 2) = wf at BX n2_ ⊢
      generalize we.heap.size = gl at n2_ n3_ ⊢
      refine (below_c 5 BX.out.cx.cs_ BX.out.cx.bel).mono ?_
      rintro e wh ⟨j, rfl, r0_, r1_, hi, hb, hk⟩
      replace r1_ := r1_ (by decide)
      obtain ⟨xj, hxj⟩ : ∃ x_ : Int, (#[.int .i64 (-1), .int .i64 0, .int .i64 100000, .int .i64 100001, .int .i64 1099511627777] : Array Value)[j.toNat]? = some (.int .i64 x_) := by
       have h_ : j = 0 ∨ j = 1 ∨ j = 2 ∨ j = 3 ∨ j = 4 := by omega
       rcases h_ with rfl | rfl | rfl | rfl | rfl <;> exact ⟨_, rfl⟩
      have hx_ : wh.cell? ⟨gl, j.toNat, none⟩ = some (.int .i64 xj) := (blk_cell (hk.blk n2_.out n3_.out (by simp)) _).trans hxj
      have n1_ := Aside0.mk (BX.out.keep hi hb hk)
      clear BX
      have BX := n1_
      clear n1_
      clear hi hb hk hxj n2_ n3_
      replace r0_ := eq_true r0_
      replace r1_ := eq_true r1_
      have hs0 := (BX.out.at_ 0).trans rfl
      have hsf0 := blk_frozen BX.out.bk 0
      go_wp2
      clear hs0 hsf0 hx_
      have n1_ := Aside0.mk (BX.out.put 0 (.int .i64 xj) (cs' := #[.int .i64 xj, .int .i64 pn, .int .i64 pv, .int .i64 pn, .slice A5 n5 c5, .slice A6 n6 c6, mv, .int .i64 b]) rfl)
      clear BX
      generalize (wh.setCell ⟨gb, 0, none⟩ (.int .i64 xj)) = wi at n1_ ⊢
      have BX := n1_
      clear n1_
      go_meet
      case rel => exact ⟨_, _, _, _, _, rfl, BX, ⟨(by have := HN.out; omega)⟩⟩
     ·by_cases d1 : q = 1
      ·subst d1
       clear q0 q4 d0
       go_wp2_with fail
       have n2_ := Aside0.mk (heap_alloc_new we (.cells #[.int .i64 (-1), .int .i64 5, .int .i64 2147483646] 2))
       have n1_ := Aside0.mk (BX.out.below (below_alloc (Below.refl we.heap.size we) (.cells #[.int .i64 (-1), .int .i64 5, .int .i64 2147483646] 2)))
       clear BX
       have BX := n1_
       clear n1_
       have n3_ := Aside0.mk (show we.heap.size ≠ g from (by have := BX.out.cx.lt; have := HE.out; omega))
       generalize we.alloc (.cells #[.int .i64 (-1), .int .i64 5, .int .i64 2147483646] 2) = wf at BX n2_ ⊢
       generalize we.heap.size = gl at n2_ n3_ ⊢
       refine (below_c 3 BX.out.cx.cs_ BX.out.cx.bel).mono ?_
       rintro e wh ⟨j, rfl, r0_, r1_, hi, hb, hk⟩
       replace r1_ := r1_ (by decide)
       obtain ⟨xj, hxj⟩ : ∃ x_ : Int, (#[.int .i64 (-1), .int .i64 5, .int .i64 2147483646] : Array Value)[j.toNat]? = some (.int .i64 x_) := by
        have h_ : j = 0 ∨ j = 1 ∨ j = 2 := by omega
        rcases h_ with rfl | rfl | rfl <;> exact ⟨_, rfl⟩
       have hx_ : wh.cell? ⟨gl, j.toNat, none⟩ = some (.int .i64 xj) := (blk_cell (hk.blk n2_.out n3_.out (by simp)) _).trans hxj
       have n1_ := Aside0.mk (BX.out.keep hi hb hk)
       clear BX
       have BX := n1_
       clear n1_
       clear hi hb hk hxj n2_ n3_
       replace r0_ := eq_true r0_
       replace r1_ := eq_true r1_
       have hs1 := (BX.out.at_ 1).trans rfl
       have hsf1 := blk_frozen BX.out.bk 1
       go_wp2
       clear hs1 hsf1 hx_
       have n1_ := Aside0.mk (BX.out.put 1 (.int .i64 xj) (cs' := #[.int .i64 v, .int .i64 xj, .int .i64 pv, .int .i64 pn, .slice A5 n5 c5, .slice A6 n6 c6, mv, .int .i64 b]) rfl)
       clear BX
       generalize (wh.setCell ⟨gb, 1, none⟩ (.int .i64 xj)) = wi at n1_ ⊢
       have BX := n1_
       clear n1_
       go_meet
       case rel => exact ⟨_, _, _, _, _, rfl, BX, ⟨(by have := HN.out; omega)⟩⟩
      ·by_cases d2 : q = 2
       ·subst d2
        clear q0 q4 d0 d1
        go_wp2_with fail
        have n1_ := Aside0.mk (BX.out.below (below_drew (Below.refl _ _)))
        clear BX
        have BX := n1_
        clear n1_
        refine start_ (n := 11) (S := fun w' => w'.cell? ⟨gb, 6, none⟩ = some (mv)) (ds := [8, 10]) (bA 11 0) (by kernel_rfl) rfl rfl ((BX.out.at_ 6).trans rfl) (fun hHeld => ?_)
        generalize we.drew = wd at BX hHeld ⊢
        refine pure_ (i := 0) (N := some 62) (v := ?_) (a' := ?_) (bA 11 1) rfl rfl (by kernel_rfl) (fun _ _ _ h => h) (Or.inl ⟨(by rfl), ?_⟩) ?_ ?_
        rotate_left
        ·intro w'
         go_simp
         with_reducible rfl
        rotate_left
        ·simp only [sp_]
         rfl
        refine pure_ (i := 2) (N := some 64) (v := ?_) (a' := ?_) (bA 11 5) rfl rfl (by kernel_rfl) (fun _ _ _ h => h) (Or.inl ⟨(by rfl), ?_⟩) ?_ ?_
        rotate_left
        ·intro w'
         go_simp
         with_reducible rfl
        rotate_left
        ·simp only [sp_]
         rfl
        refine take_ (i := 1) (N := some 63) (v := ?_) (a' := ?_) (bA 11 7) rfl rfl (by kernel_rfl) (fun _ _ _ h => h) (Or.inl ⟨(by rfl), ?_⟩) hHeld ?_ ?_
        rotate_left
        ·intro w' s0
         go_simp
         with_reducible rfl
        rotate_left
        ·simp only [sp_]
         rfl
        refine one_ (i := 3) (N := some 65) (bA 11 15) rfl rfl (by kernel_rfl) (by decide) (fun K hK => ?_)
        refine goes_ Tryd.func46 (by kernel_rfl) rfl #[.pointer (some ⟨g, 0, none⟩), .int .i64 2] (by rfl) rfl rfl Z18 ?_
        with_reducible refine (below_c 2 BX.out.cx.cs_ BX.out.cx.bel).mono ?_
        rintro e wa ⟨ra, rfl, x0_, x1_, hi, hb, hk⟩
        refine ⟨_, rfl, ?_⟩
        have Xra := Aside0.mk (show 0 ≤ wrap64 (60 + ra) ∧ wrap64 (60 + ra) < 62 from (by have := x1_ (by decide); rw [w64 (by omega) (by omega)]; omega))
        have n1_ := Aside0.mk (BX.out.keep hi hb hk)
        clear BX
        have BX := n1_
        clear n1_
        clear hi hb hk x0_ x1_
        refine hK.out _ _ ((BX.out.at_ 6).trans rfl) (fun hHeld => ?_)
        clear hK K
        refine norm_ (a' := ?_) ?_ ?_
        rotate_left
        ·show Act.put _ (some 65) _ = _
         simp only [sp_]
         rfl
        refine pure_ (i := 4) (N := some 66) (v := ?_) (a' := ?_) (bA 11 31) rfl rfl (by kernel_rfl) (fun _ _ _ h => h) (Or.inl ⟨(by rfl), ?_⟩) ?_ ?_
        rotate_left
        ·intro w'
         go_simp
         with_reducible rfl
        rotate_left
        ·simp only [sp_]
         rfl
        refine one_ (i := 5) (N := some 67) (bA 11 63) rfl rfl (by kernel_rfl) (by decide) (fun K hK => ?_)
        refine Kd.R_make_step (Kd.int .u8) (w0 := _) w3.heap.size 5 (by rfl) (N := 67) rfl 22 (.tmp 66) (.tmp 66) rfl (wrap64 (60 + ra)) rfl rfl Tryd.underlying22 (.int .u8 0) 1 info5 rfl (by decide) (by decide) (0 : Int) (ok := fun _ => True) (okp := fun _ => False) rfl (fun _ h => h.elim) trivial Xra.out.1 (by have := Xra.out; omega) (Below.refl _ _) BX.out.cx.sz ?_
        intro v7 w7b ho hb hg hat
        have n1_ := Aside0.mk (BX.out.grown0 hb hg)
        clear BX
        have BX := n1_
        clear n1_
        obtain ⟨A67, l67, c67, rfl⟩ : ∃ A l c, v7 = .slice A l c := let ⟨A, c, h_⟩ := Kd.R_slice ho; ⟨A, _, c, h_⟩
        obtain ⟨s36, hs36⟩ : ∃ z_, z_ = strOfNums (List.replicate (wrap64 (60 + ra)).toNat (0 : Int)) := ⟨_, rfl⟩
        have hcv := Kd.C_string (P := Tryd.prog) (A := A67) (c := c67) Tryd.underlying22 Tryd.underlying5 Tryd.underlying9 (Kd.R_reads' ho).2.2
        rw [← (Kd.R_reads' ho).1, ← hs36] at hcv
        clear ho hb hg hat hs36
        refine hK.out _ _ ((BX.out.at_ 6).trans rfl) (fun hHeld => ?_)
        clear hK K
        refine norm_ (a' := ?_) ?_ ?_
        rotate_left
        ·show Act.put _ (some 67) _ = _
         simp only [sp_]
         rfl
        refine one_ (i := 6) (N := some 68) (bA 11 127) rfl rfl (by kernel_rfl) (by decide) (fun K hK => ?_)
        refine value_ (w1 := ?_) (v := ?_) (by rfl) rfl ?_ ?_
        rotate_left 2
        ·go_simp
         constructor
         ·rfl
         ·rfl
        refine hK.out _ _ ((BX.out.at_ 6).trans rfl) (fun hHeld => ?_)
        clear hK K
        refine norm_ (a' := ?_) ?_ ?_
        rotate_left
        ·show Act.put _ (some 68) _ = _
         simp only [sp_]
         rfl
        refine one_ (i := 7) (N := some 69) (bA 11 255) rfl rfl (by kernel_rfl) (by decide) (fun K hK => ?_)
        refine value_ (w1 := ?_) (v := ?_) (by rfl) rfl ?_ ?_
        rotate_left 2
        ·go_simp
         constructor
         ·rfl
         ·rfl
        obtain ⟨ms, hms, hml⟩ := BX.out.mvs
        refine hK.out _ _ ((blk_cell (blk_alloc BX.out.bk _) 6).trans rfl) (fun hHeld => ?_)
        clear hK K
        refine norm_ (a' := ?_) ?_ ?_
        rotate_left
        ·show Act.put _ (some 69) _ = _
         simp only [sp_]
         rfl
        refine last_ (i := 8) (N := some 70) (bA 11 511) rfl rfl (by kernel_rfl) (by decide) (fun K hK => ?_)
        refine Kd.R_append_step Kd.string (w0 := _) w3.heap.size (by rfl) (.tmp 63) (.tmp 69) 27 9 (.string ⟨#[]⟩) 16 rfl Tryd.underlying27 info9 rfl (by decide) (by omega) mv ms s36 [.string s36] (fun _ => True) (fun _ => False) rfl rfl ?aP (fun _ hk => hk.elim) (fun _ _ => trivial) hms (Below.refl _ _) BX.out.cx.sz ?aL ?_
        (case aP => exact rfl)
        (case aL => have := HN.out; omega)
        intro v8 w8 ho hb hg hat
        obtain ⟨Am, lm, cm, rfl⟩ : ∃ A l c, v8 = .slice A l c := let ⟨A, c, h_⟩ := Kd.R_slice ho; ⟨A, _, c, h_⟩
        have n1_ := Aside0.mk (BX.out.app (m' := m + 1) ho (by rw [List.length_append]; simp only [List.length_cons, List.length_nil]; omega) hb hg)
        clear BX ho hb hg hat
        have BX := n1_
        clear n1_
        have hs6 : w8.cell? ⟨gb, 6, none⟩ = some mv := (BX.out.at_ 6).trans rfl
        have hsf6 := blk_frozen BX.out.bk 6
        refine hK.out _ _ ?_
        clear hK K
        refine norm_ (a' := ?_) ?_ ?_
        rotate_left
        ·show Act.put _ (some 70) _ = _
         simp only [sp_]
         rfl
        refine pure_ (i := 9) (N := some 71) (v := ?_) (a' := ?_) (bA 11 1023) rfl rfl (by kernel_rfl) (fun _ _ _ h => h) (Or.inl ⟨(by rfl), ?_⟩) ?_ ?_
        rotate_left
        ·intro w'
         go_simp
         with_reducible rfl
        rotate_left
        ·simp only [sp_]
         rfl
        refine last_ (i := 10) (N := none) (bA 11 2047) rfl rfl (by kernel_rfl) (by decide) (fun K hK => ?_)
        refine skip_ (w1 := ?_) (by rfl) rfl ?_ ?_
        rotate_left
        ·go_simp
         rfl
        refine hK.out _ _ ?_
        clear hK K
        refine done_ (by kernel_rfl) ?_
        try go_wp2
        have n1_ := Aside0.mk (BX.out.put 6 (.slice Am lm cm) (cs' := #[.int .i64 v, .int .i64 pn, .int .i64 pv, .int .i64 pn, .slice A5 n5 c5, .slice A6 n6 c6, .slice Am lm cm, .int .i64 b]) rfl)
        clear BX
        generalize (w8.setCell ⟨gb, 6, none⟩ (.slice Am lm cm)) = w9b at n1_ ⊢
        have BX := n1_
        clear n1_
        go_meet
        case rel => exact ⟨_, _, _, _, _, rfl, BX, ⟨(by have := HN.out; omega)⟩⟩
       ·obtain rfl : q = 3 := by omega
        clear q0 q4 d0 d1 d2
        go_wp2_with fail
        refine (from_c (-1) 5 BX.out.cx.cs_ BX.out.cx.bel).mono ?_
        rintro e wh ⟨y, rfl, hi, hb, hk⟩
        have n1_ := Aside0.mk (BX.out.keep hi hb hk)
        clear BX
        have BX := n1_
        clear n1_
        clear hi hb hk
        have hs7 := (BX.out.at_ 7).trans rfl
        have hsf7 := blk_frozen BX.out.bk 7
        go_wp2
        clear hs7 hsf7
        have n1_ := Aside0.mk (BX.out.put 7 (.int .i64 y) (cs' := #[.int .i64 v, .int .i64 pn, .int .i64 pv, .int .i64 pn, .slice A5 n5 c5, .slice A6 n6 c6, mv, .int .i64 y]) rfl)
        clear BX
        generalize (wh.setCell ⟨gb, 7, none⟩ (.int .i64 y)) = wi at n1_ ⊢
        have BX := n1_
        clear n1_
        go_meet
        case rel => exact ⟨_, _, _, _, _, rfl, BX, ⟨(by have := HN.out; omega)⟩⟩
   case rest =>
    clear BX
    obtain ⟨v, p, b, mv, m, rfl, BX, HM⟩ := hcut
    obtain ⟨ms, hms, hml⟩ := BX.out.mvs
    obtain ⟨Am, lm, cm, rfl⟩ : ∃ A l c, mv = .slice A l c := let ⟨A, c, h_⟩ := Kd.R_slice hms; ⟨A, _, c, h_⟩
    have BR := Aside0.mk ((BX.out.cx.old g2 GE2.out (blk_lt BK2.out)).trans BK2.out)
    have MS := Aside0.mk (And.intro hms hml)
    clear hms hml
    have hs0 := (BX.out.at_ 0).trans rfl
    have hs1 := (BX.out.at_ 1).trans rfl
    have hs2 := (BX.out.at_ 2).trans rfl
    have hs3 := (BX.out.at_ 3).trans rfl
    have hs4 := (BX.out.at_ 4).trans rfl
    have hs5 := (BX.out.at_ 5).trans rfl
    have hs6 := (BX.out.at_ 6).trans rfl
    have hs7 := (BX.out.at_ 7).trans rfl
    have hsf0 := blk_frozen BX.out.bk 0
    have hsf1 := blk_frozen BX.out.bk 1
    have hsf2 := blk_frozen BX.out.bk 2
    have hsf3 := blk_frozen BX.out.bk 3
    have hsf4 := blk_frozen BX.out.bk 4
    have hsf5 := blk_frozen BX.out.bk 5
    have hsf6 := blk_frozen BX.out.bk 6
    have hsf7 := blk_frozen BX.out.bk 7
    have hr0 := (blk_cell BR.out 0).trans rfl
    have hr1 := (blk_cell BR.out 1).trans rfl
    have hr2 := (blk_cell BR.out 2).trans rfl
    have hr3 := (blk_cell BR.out 3).trans rfl
    have hr4 := (blk_cell BR.out 4).trans rfl
    have hr5 := (blk_cell BR.out 5).trans rfl
    have hr6 := (blk_cell BR.out 6).trans rfl
    have hr7 := (blk_cell BR.out 7).trans rfl
    have hrf0 := blk_frozen BR.out 0
    have hrf1 := blk_frozen BR.out 1
    have hrf2 := blk_frozen BR.out 2
    have hrf3 := blk_frozen BR.out 3
    have hrf4 := blk_frozen BR.out 4
    have hrf5 := blk_frozen BR.out 5
    have hrf6 := blk_frozen BR.out 6
    have hrf7 := blk_frozen BR.out 7
    go_wp2
    refine bodyPost_ret (results_cell_row rfl _ _ g2 29 #[.int .i64 v, .int .i64 p, .int .i64 pv, .int .i64 pn, .slice A5 n5 c5, .slice A6 n6 c6, .slice Am lm cm, .int .i64 b] (0, 0) _ rfl (by refine blk_put (cs := #[.int .i64 v, .int .i64 p, .int .i64 pv, .int .i64 pn, .slice A5 n5 c5, .slice A6 n6 c6, .slice Am lm cm, .int .i64 0]) ?_ 7 _ rfl; refine blk_put (cs := #[.int .i64 v, .int .i64 p, .int .i64 pv, .int .i64 pn, .slice A5 n5 c5, .slice A6 n6 c6, .slice none 0 0, .int .i64 0]) ?_ 6 _ rfl; refine blk_put (cs := #[.int .i64 v, .int .i64 p, .int .i64 pv, .int .i64 pn, .slice A5 n5 c5, .slice none 0 0, .slice none 0 0, .int .i64 0]) ?_ 5 _ rfl; refine blk_put (cs := #[.int .i64 v, .int .i64 p, .int .i64 pv, .int .i64 pn, .slice none 0 0, .slice none 0 0, .slice none 0 0, .int .i64 0]) ?_ 4 _ rfl; refine blk_put (cs := #[.int .i64 v, .int .i64 p, .int .i64 pv, .int .i64 0, .slice none 0 0, .slice none 0 0, .slice none 0 0, .int .i64 0]) ?_ 3 _ rfl; refine blk_put (cs := #[.int .i64 v, .int .i64 p, .int .i64 0, .int .i64 0, .slice none 0 0, .slice none 0 0, .slice none 0 0, .int .i64 0]) ?_ 2 _ rfl; refine blk_put (cs := #[.int .i64 v, .int .i64 0, .int .i64 0, .int .i64 0, .slice none 0 0, .slice none 0 0, .slice none 0 0, .int .i64 0]) ?_ 1 _ rfl; refine blk_put (cs := #[.int .i64 0, .int .i64 0, .int .i64 0, .int .i64 0, .slice none 0 0, .slice none 0 0, .slice none 0 0, .int .i64 0]) ?_ 0 _ rfl; exact BR.out) Tryd.underlying29 rfl (by kernel_rfl)) rfl ?_
    have FN : Fin w0 w wc g g2 _ _ _ _ := ⟨BX.out.cx.pf PF.out, Kd.R_lower (Kd.R_mono (Kd.R_types MS.out.1 BR.out (by decide)) (fun _ h => h.2)) BX.out.cx.le, BX.out.cx.cs_, BX.out.cx.bel, BX.out.cx.kb, BX.out.cx.lt, GE2.out, BX.out.cx.le0⟩
    have FN := (((((((FN.put 0 (.int .i64 v)).put 1 (.int .i64 p)).put 2 (.int .i64 pv)).put 3 (.int .i64 pn)).put 4 (.slice A5 n5 c5)).put 5 (.slice A6 n6 c6)).put 6 (.slice Am lm cm)).put 7 (.int .i64 b)
    exact ⟨v, p, pv, pn, b, _, _, _, ms, rfl, FN.pf.mono (fun _ h _ => h.1), Kd.R_mono FN.mv (fun _ _ => trivial), Nat.le_trans MS.out.2 HM.out, FN.cs_, FN.bel, FN.kb⟩
end Go.Proofs.YtokhjhkkncbjeaaDoor.PFnBlocks
