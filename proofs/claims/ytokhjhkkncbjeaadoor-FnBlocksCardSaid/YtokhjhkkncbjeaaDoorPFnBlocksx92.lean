import Derived.Test.YtokhjhkkncbjeaaDoorPFnBlocksx91
namespace Go.Proofs.YtokhjhkkncbjeaaDoor.PFnBlocks
open Go.RowKit Go.Proofs.YtokhjhkkncbjeaaDoorW.PrintWords Go.Proofs.YtokhjhkkncbjeaaDoorW.PrintLast Go.Proofs.YtokhjhkkncbjeaaDoorW.PrintMore
attribute [local go_sem] max2_int min2_int max_two min_two max_three min_three max_four min_four
attribute [local go_sem high] str_gtr str_leq str_geq
set_option linter.unusedVariables false
set_option linter.unusedSimpArgs false
theorem strOf_size (xs : List Int) : (strOfNums xs).size = xs.length := by simp [strOfNums, ByteArray.size]
set_option maxHeartbeats 8000000 in
set_option maxRecDepth 100000 in
theorem spec_l1Bend.calls (g : Nat) (s z : ByteArray) (w0 w : World) (hI : Cs w0 w g) (hB : Below w0.heap.size w0 w) (hs : s.size ≤ 1000000000000) (hz : 0 < z.size ∧ z.size ≤ 1000) :
  Calls Tryd.prog 23 #[.pointer (some ⟨g, 0, none⟩), .string s, .string z] w fun e w' => ∃ r : ByteArray, e = .returned (.string r) ∧ r.size ≤ s.size + 3 ∧ Cs w0 w' g ∧ Below w0.heap.size w0 w' ∧ KeepBut w w' g none := by
 have eg1 : ∀ args w, (callFunc 46 args).run Tryd.prog w = .ok (.enter 46 args) w := enters_ Tryd.func46 (by kernel_rfl) rfl
 have HW := Aside0.mk hB.size
 have HI := Aside0.mk hI
 have HB := Aside0.mk hB
 have HZ := Aside0.mk hz
 have HS := Aside0.mk hs
 clear hI hB hs hz
 go_enter Tryd.func23, Tryd.ntmps23
 go_wp2_with (first | ((with_reducible refine gate_dst (N := 11) rfl ?_); refine Bs_conv w.heap.size ?hg (N := 11) ?hd s Tryd.underlying9 Tryd.underlying22 Tryd.underlying5 ?hr (Nat.le_refl _) (Nat.le_trans HS.out (by decide)) ?_; (case hd => rfl); (case hg => rfl); (case hr => first | (go_simp; done) | (go_simp; rfl)); intro v1 w1 ho hb; have OB := Aside0.mk ho; have n1_ := Aside0.mk (HI.out.below hb); have n2_ := Aside0.mk (below_weaken HB.out HB.out.size hb); have HK := Aside0.mk (KeepBut.of_below hb g none); clear HI HB ho hb; have HI := n1_; have HB := n2_; clear n1_ n2_))
 refine (below_c 3 HI.out HB.out).mono ?_
 rintro e w2 ⟨n0, rfl, r0_, r1_, hi, hb, hk⟩
 obtain ⟨cs_, hcs_⟩ := HI.out.blk
 have Rn0 := Aside0.mk (And.intro r0_ r1_)
 have n1_ := Aside0.mk (OB.out.keep hcs_ hk)
 have n2_ := Aside0.mk (KeepBut.trans HK.out hk (.inl rfl))
 clear r0_ r1_ HI HB HK OB hcs_ hk cs_
 have OB := n1_
 have HK := n2_
 have HI := Aside0.mk hi
 have HB := Aside0.mk hb
 clear n1_ n2_ hi hb

 try go_wp2
 go_loopg [7, 8] 4 (fun kq v7 v8 w' => ∃ (n : Int) (xs : List Int), v8 = .int .i64 n ∧ Aside0 (0 ≤ n ∧ n < 4 ∧ n < kq ∧ xs.length + n ≤ s.size + 3) ∧ Aside0 (Bs w' w.heap.size v7 xs) ∧ Aside0 (Cs w0 w' g) ∧ Aside0 (Below w0.heap.size w0 w') ∧ Aside0 (KeepBut w w' g none))
 case atStart => exact ⟨n0, bytesOf s, rfl, ⟨(by have := Rn0.out.1; have := Rn0.out.2 (by decide); rw [bytesOf_length]; omega)⟩, OB, HI, HB, HK⟩
 case round =>
  clear OB HI HB HK Rn0
  obtain ⟨n, xs, rfl, HN, OB, HI, HB, HK⟩ := hrel
  obtain ⟨A, c, rfl, hc, hr⟩ := OB.out.reads
  have HR := Aside0.mk hr
  clear hr
  have HC := Aside0.mk hc
  clear hc
  by_cases c1 : n > 0 ∧ 0 < xs.length
  ·obtain ⟨c1, c2⟩ := c1
   have c1b : decide (n > 0) = true := decide_eq_true c1
   have c2b : decide (0 < xs.length) = true := decide_eq_true (by omega)
   have NX := Aside0.mk c2
   have HP := Aside0.mk (show 0 < n from c1)
   have wn := Aside0.mk (show wrap64 (n - 1) = n - 1 from (by have := HN.out; rw [w64 (by omega) (by omega)]))
   clear c1 c2
   go_wp2_with fail
   refine (below_c (xs.length : Int) HI.out HB.out).mono ?_
   rintro e w3 ⟨i, rfl, r0_, r1_, hi, hb, hk⟩
   obtain ⟨cs_, hcs_⟩ := HI.out.blk
   have Ri := Aside0.mk (And.intro r0_ r1_)
   have n1_ := Aside0.mk (OB.out.keep hcs_ hk)
   have n2_ := Aside0.mk (KeepBut.trans HK.out hk (.inl rfl))
   clear r0_ r1_ HI HB HK OB hcs_ hk cs_
   have OB := n1_
   have HK := n2_
   have HI := Aside0.mk hi
   have HB := Aside0.mk hb
   clear n1_ n2_ hi hb

   go_wp2_with fail
   refine (below_c 4 HI.out HB.out).mono ?_
   rintro e w4 ⟨q, rfl, r0_, r1_, hi, hb, hk⟩
   obtain ⟨cs_, hcs_⟩ := HI.out.blk
   have Rq := Aside0.mk (And.intro r0_ r1_)
   have n1_ := Aside0.mk (OB.out.keep hcs_ hk)
   have n2_ := Aside0.mk (KeepBut.trans HK.out hk (.inl rfl))
   clear r0_ r1_ HI HB HK OB hcs_ hk cs_
   have OB := n1_
   have HK := n2_
   have HI := Aside0.mk hi
   have HB := Aside0.mk hb
   clear n1_ n2_ hi hb

   obtain ⟨q0, q4⟩ := Rq.out
   replace q4 := q4 (by decide)
   obtain ⟨i0, i1⟩ := Ri.out
   replace i1 := i1 (by have := NX.out; omega)
   clear Rq Ri
   by_cases d0 : q = 0
   ·subst d0
    clear q0 q4
    go_wp2_with fail
    refine (below_c (z.size : Int) HI.out HB.out).mono ?_
    rintro e w5 ⟨j, rfl, r0_, r1_, hi, hb, hk⟩
    obtain ⟨cs_, hcs_⟩ := HI.out.blk
    have Rj := Aside0.mk (And.intro r0_ r1_)
    have n1_ := Aside0.mk (OB.out.keep hcs_ hk)
    have n2_ := Aside0.mk (KeepBut.trans HK.out hk (.inl rfl))
    clear r0_ r1_ HI HB HK OB hcs_ hk cs_
    have OB := n1_
    have HK := n2_
    have HI := Aside0.mk hi
    have HB := Aside0.mk hb
    clear n1_ n2_ hi hb

    obtain ⟨j0, j1⟩ := Rj.out
    replace j1 := j1 (by have := HZ.out; omega)
    clear Rj
    obtain ⟨ga, ca, hv, hge, hx, hf, hcs, hset⟩ := OB.out.at_ i i0 i1
    injection hv with hA _ hca
    subst hA hca
    have HX := Aside0.mk hset
    have HCS := Aside0.mk hcs
    have HGE := Aside0.mk hge
    clear hset hcs hge
    replace i0 := eq_true i0
    replace i1 := eq_true i1
    replace j0 := eq_true j0
    replace j1 := eq_true j1
    go_wp2
    have e1 := wn.out
    go_roundg (gk - 1)
    case measure => have := HN.out; omega
    case rel =>
     obtain ⟨cs_, hcs_⟩ := HI.out.blk
     obtain ⟨cs', fz', hcs'⟩ := HCS.out
     exact ⟨_, _, rfl, ⟨(by rw [e1, List.length_set]; have := HN.out; have := HP.out; omega)⟩, ⟨HX.out _⟩, ⟨HI.out.far (p := ⟨ga, i.toNat, none⟩) (Bs.ne67 (base := 0) (v := .nilIface) (xs := []) hcs_ hcs') _⟩, ⟨below_set HB.out (Nat.le_trans HW.out HGE.out)⟩, ⟨keep_far HK.out HGE.out _⟩⟩
   ·by_cases d1 : q = 1
    ·subst d1
     obtain ⟨A2, c2, hv, hc2, hset⟩ := OB.out.take i.toNat (by omega)
     injection hv with hA _ hca
     subst hA hca
     obtain ⟨iy, hiy, _, hsz, _⟩ := info_parts info5
     have hcut := cut_to (P := Tryd.prog) 22 5 .i64 Tryd.underlying22 hiy A xs.length c i i0 (by omega) hc2
     have HX := Aside0.mk hset
     clear hset hiy hsz hc2 q0 q4 d0
     go_wp2
     have e1 := wn.out
     go_roundg (gk - 1)
     case measure => have := HN.out; omega
     case rel => exact ⟨_, _, rfl, ⟨(by rw [e1, List.length_take]; have := HN.out; have := HP.out; omega)⟩, HX, HI, HB, HK⟩
    ·by_cases d2 : q = 2
     ·subst d2
      clear q0 q4 d0 d1
      obtain ⟨iy, hiy, _, hsz, _⟩ := info_parts info5
      have TL := Aside0.mk (And.intro (show (xs.take i.toNat).length = i.toNat from (by rw [List.length_take]; omega)) (show i.toNat ≤ xs.length from (by omega)))
      have LN := Aside0.mk (show xs.length ≤ 1000000000010 from (by have := HN.out; have := HS.out; omega))
      have ew := Aside0.mk (show wrap64 (i + 1) = i + 1 from (by have := LN.out; rw [w64 (by omega) (by omega)]))
      have hcut := cut_to (P := Tryd.prog) 22 5 .i64 Tryd.underlying22 hiy A xs.length c i i0 (by omega) HC.out
      have hcut2 := cut_from (P := Tryd.prog) 22 5 .i64 Tryd.underlying22 hiy 1 hsz A xs.length c (wrap64 (i + 1)) (by have := ew.out; omega) (by have := ew.out; omega)
      obtain ⟨A3, hA3⟩ : ∃ z_, z_ = (if c = (wrap64 (i + 1)).toNat then A else A.map (·.add ((wrap64 (i + 1)).toNat * 1))) := ⟨_, rfl⟩
      obtain ⟨m3, hm3⟩ : ∃ z_, z_ = xs.length - (wrap64 (i + 1)).toNat := ⟨_, rfl⟩
      obtain ⟨c3, hc3⟩ : ∃ z_, z_ = c - (wrap64 (i + 1)).toNat := ⟨_, rfl⟩
      rw [← hA3, ← hm3, ← hc3] at hcut2
      have M3 := Aside0.mk (show m3 ≤ xs.length from (by omega))
      have DL := Aside0.mk (And.intro (And.intro hA3 hm3) (show (wrap64 (i + 1)).toNat ≤ xs.length from (by have := ew.out; omega)))
      clear hA3 hm3 hc3 hiy hsz
      have II := Aside0.mk (And.intro i0 i1)
      clear i0 i1
      go_wp2
      have G := Aside0.mk (G2.start (Kd.int .u8) 5 HI.out HB.out)
      refine start_ (n := 11) (S := fun w' => True) (ds := []) (bA 11 0) (by kernel_rfl) rfl rfl trivial (fun hHeld => ?_)
      refine pure_ (i := 1) (N := some 48) (v := ?_) (a' := ?_) (bA 11 2) rfl rfl (by kernel_rfl) (fun _ _ _ h => h) (Or.inl ⟨(by rfl), ?_⟩) ?_ ?_
      rotate_left
      ·intro w'
       go_simp
       with_reducible rfl
      rotate_left
      ·simp only [sp_]
       rfl
      refine pure_ (i := 2) (N := some 49) (v := ?_) (a' := ?_) (bA 11 6) rfl rfl (by kernel_rfl) (fun _ _ _ h => h) (Or.inl ⟨(by rfl), ?_⟩) ?_ ?_
      rotate_left
      ·intro w'
       go_simp
       with_reducible rfl
      rotate_left
      ·simp only [sp_]
       rfl
      refine pure_ (i := 3) (N := some 50) (v := ?_) (a' := ?_) (bA 11 14) rfl rfl (by kernel_rfl) (fun _ _ _ h => h) (Or.inl ⟨(by rfl), ?_⟩) ?_ ?_
      rotate_left
      ·intro w'
       go_simp
       with_reducible rfl
      rotate_left
      ·simp only [sp_]
       rfl
      refine pure_ (i := 5) (N := some 52) (v := ?_) (a' := ?_) (bA 11 46) rfl rfl (by kernel_rfl) (fun _ _ _ h => h) (Or.inl ⟨(by rfl), ?_⟩) ?_ ?_
      rotate_left
      ·intro w'
       go_simp
       with_reducible rfl
      rotate_left
      ·simp only [sp_]
       rfl
      refine pure_ (i := 6) (N := some 53) (v := ?_) (a' := ?_) (bA 11 110) rfl rfl (by kernel_rfl) (fun _ _ _ h => h) (Or.inl ⟨(by rfl), ?_⟩) ?_ ?_
      rotate_left
      ·intro w'
       go_simp
       with_reducible rfl
      rotate_left
      ·simp only [sp_]
       rfl
      refine pure_ (i := 7) (N := some 54) (v := ?_) (a' := ?_) (bA 11 238) rfl rfl (by kernel_rfl) (fun _ _ _ h => h) (Or.inl ⟨(by rfl), ?_⟩) ?_ ?_
      rotate_left
      ·intro w'
       go_simp
       with_reducible rfl
      rotate_left
      ·simp only [sp_]
       rfl
      refine pure_ (i := 8) (N := some 55) (v := ?_) (a' := ?_) (bA 11 494) rfl rfl (by kernel_rfl) (fun _ _ _ h => h) (Or.inl ⟨(by rfl), ?_⟩) ?_ ?_
      rotate_left
      ·intro w'
       go_simp
       with_reducible rfl
      rotate_left
      ·simp only [sp_]
       rfl
      refine one_ (i := 0) (N := some 47) (bA 11 495) rfl rfl (by kernel_rfl) (by decide) (fun K hK => ?_)
      refine Kd.R_lit_step (Kd.int .u8) w4.heap.size 5 (by rfl) (N := 47) rfl (xs := ([] : List Int)) (inner := []) (ok := fun k_ => some k_ ≠ ((Value.slice none 0 0) : Value).ownBlock) (okp := fun _ => False) ?lr ?lp (fun _ h => h.elim) (G.out.fresh _ (Nat.le_refl _)) (Below.refl _ _) G.out.size (by simp) ?_
      (case lr => first | (go_simp; done) | (go_simp; rfl))
      (case lp => exact Reps.none _ _)
      intro v1 w1 h1 hb hg hat
      have n1_ := Aside0.mk (G.out.app h1 hb hg (.inr hat))
      clear G h1 hb hg hat
      have G := n1_
      clear n1_
      refine hK.out _ _ trivial (fun hHeld => ?_)
      clear hK K
      refine norm_ (a' := ?_) ?_ ?_
      rotate_left
      ·show Act.put _ (some 47) _ = _
       simp only [sp_]
       rfl
      refine one_ (i := 4) (N := some 51) (bA 11 511) rfl rfl (by kernel_rfl) (by decide) (fun K hK => ?_)
      refine Kd.R_append_rows_step (Kd.int .u8) w4.heap.size (by rfl) (.tmp 47) (.tmp 50) 22 5 (.int .u8 0) 1 rfl Tryd.underlying22 info5 rfl (by decide) (by omega) _ [] (xs.take i.toNat) _ _ _ (fun k_ => some k_ ≠ ((Value.slice none 0 0) : Value).ownBlock) (fun _ => False) rfl rfl G.out.1 ?aR (fun _ _ h => h) (fun _ h => h.elim) G.out.fresh (Below.refl _ _) G.out.size ?aL ?_
      (case aR => (have h_ := Kd.C_take (m := i.toNat) (G.out.reads HI.out OB.out).C.2.2 TL.out.2; rw [TL.out.1] at h_; exact h_))
      (case aL => simp only [List.length_nil]; have := LN.out; have := TL.out.2; omega)
      intro v1 w1 h1 hb hg hat
      have n1_ := Aside0.mk (G.out.app h1 hb hg hat)
      clear G h1 hb hg hat
      have G := n1_
      clear n1_
      refine hK.out _ _ trivial (fun hHeld => ?_)
      clear hK K
      refine norm_ (a' := ?_) ?_ ?_
      rotate_left
      ·show Act.put _ (some 51) _ = _
       simp only [sp_]
       rfl
      refine one_ (i := 9) (N := some 56) (bA 11 1023) rfl rfl (by kernel_rfl) (by decide) (fun K hK => ?_)
      refine Kd.R_append_rows_step (Kd.int .u8) w4.heap.size (by rfl) (.tmp 51) (.tmp 55) 22 5 (.int .u8 0) 1 rfl Tryd.underlying22 info5 rfl (by decide) (by omega) _ ([] ++ xs.take i.toNat) (xs.drop (wrap64 (i + 1)).toNat) _ _ _ (fun k_ => some k_ ≠ ((Value.slice none 0 0) : Value).ownBlock) (fun _ => False) rfl rfl G.out.1 ?aR (fun _ _ h => h) (fun _ h => h.elim) G.out.fresh (Below.refl _ _) G.out.size ?aL ?_
      (case aR => (have h_ := Kd.C_drop (m := (wrap64 (i + 1)).toNat) (G.out.reads HI.out OB.out).C.2.2 DL.out.2 HC.out; simp only [List.length_drop] at h_; rw [DL.out.1.1, DL.out.1.2]; exact h_))
      (case aL => simp only [List.nil_append]; rw [TL.out.1]; have := LN.out; have := TL.out.2; have := M3.out; omega)
      intro v1 w1 h1 hb hg hat
      have n1_ := Aside0.mk (G.out.app h1 hb hg hat)
      clear G h1 hb hg hat
      have G := n1_
      clear n1_
      refine hK.out _ _ trivial (fun hHeld => ?_)
      clear hK K
      refine norm_ (a' := ?_) ?_ ?_
      rotate_left
      ·show Act.put _ (some 56) _ = _
       simp only [sp_]
       rfl
      refine pure_ (i := 10) (N := some 7) (v := ?_) (a' := ?_) (bA 11 2047) rfl rfl (by kernel_rfl) (fun _ _ _ h => h) (Or.inl ⟨(by rfl), ?_⟩) ?_ ?_
      rotate_left
      ·intro w'
       go_simp
       with_reducible rfl
      rotate_left
      ·simp only [sp_]
       rfl
      refine done_ (by kernel_rfl) ?_

      go_wp2
      have e1 := wn.out
      have EL := Aside0.mk (show ([] ++ xs.take i.toNat ++ xs.drop (wrap64 (i + 1)).toNat).length ≤ xs.length from (by simp only [List.length_append, List.length_nil, List.length_drop]; have := TL.out; have := DL.out.2; have := ew.out; omega))
      go_roundg (gk - 1)
      case measure => have := HN.out; omega
      case rel => exact ⟨_, _, rfl, ⟨(by rw [e1]; have := EL.out; have := HN.out; have := HP.out; omega)⟩, ⟨(Bs.of_R G.out.1).lower HK.out.1⟩, ⟨G.out.2.2.1⟩, ⟨G.out.2.2.2.1⟩, ⟨HK.out.trans G.out.2.2.2.2.1 (.inl rfl)⟩⟩
     ·obtain rfl : q = 3 := by omega
      clear q0 q4 d0 d1 d2
      obtain ⟨iy, hiy, _, hsz, _⟩ := info_parts info5
      have TL := Aside0.mk (And.intro (show (xs.take i.toNat).length = i.toNat from (by rw [List.length_take]; omega)) (show i.toNat ≤ xs.length from (by omega)))
      have LN := Aside0.mk (show xs.length ≤ 1000000000010 from (by have := HN.out; have := HS.out; omega))
      have hcut := cut_to (P := Tryd.prog) 22 5 .i64 Tryd.underlying22 hiy A xs.length c i i0 (by omega) HC.out
      have hcut2 := cut_from (P := Tryd.prog) 22 5 .i64 Tryd.underlying22 hiy 1 hsz A xs.length c i i0 (by omega)
      obtain ⟨A3, hA3⟩ : ∃ z_, z_ = (if c = i.toNat then A else A.map (·.add (i.toNat * 1))) := ⟨_, rfl⟩
      obtain ⟨m3, hm3⟩ : ∃ z_, z_ = xs.length - i.toNat := ⟨_, rfl⟩
      obtain ⟨c3, hc3⟩ : ∃ z_, z_ = c - i.toNat := ⟨_, rfl⟩
      rw [← hA3, ← hm3, ← hc3] at hcut2
      have M3 := Aside0.mk (show m3 ≤ xs.length from (by omega))
      have DL := Aside0.mk (And.intro (And.intro hA3 hm3) (show i.toNat ≤ xs.length from (by omega)))
      clear hA3 hm3 hc3 hiy hsz i0 i1
      go_wp2
      have G := Aside0.mk (G2.start (Kd.int .u8) 5 HI.out HB.out)
      refine start_ (n := 18) (S := fun w' => True) (ds := []) (bA 18 0) (by kernel_rfl) rfl rfl trivial (fun hHeld => ?_)
      refine pure_ (i := 1) (N := some 60) (v := ?_) (a' := ?_) (bA 18 2) rfl rfl (by kernel_rfl) (fun _ _ _ h => h) (Or.inl ⟨(by rfl), ?_⟩) ?_ ?_
      rotate_left
      ·intro w'
       go_simp
       with_reducible rfl
      rotate_left
      ·simp only [sp_]
       rfl
      refine pure_ (i := 2) (N := some 61) (v := ?_) (a' := ?_) (bA 18 6) rfl rfl (by kernel_rfl) (fun _ _ _ h => h) (Or.inl ⟨(by rfl), ?_⟩) ?_ ?_
      rotate_left
      ·intro w'
       go_simp
       with_reducible rfl
      rotate_left
      ·simp only [sp_]
       rfl
      refine pure_ (i := 3) (N := some 62) (v := ?_) (a' := ?_) (bA 18 14) rfl rfl (by kernel_rfl) (fun _ _ _ h => h) (Or.inl ⟨(by rfl), ?_⟩) ?_ ?_
      rotate_left
      ·intro w'
       go_simp
       with_reducible rfl
      rotate_left
      ·simp only [sp_]
       rfl
      refine pure_ (i := 5) (N := some 64) (v := ?_) (a' := ?_) (bA 18 46) rfl rfl (by kernel_rfl) (fun _ _ _ h => h) (Or.inl ⟨(by rfl), ?_⟩) ?_ ?_
      rotate_left
      ·intro w'
       go_simp
       with_reducible rfl
      rotate_left
      ·simp only [sp_]
       rfl
      refine pure_ (i := 6) (N := some 65) (v := ?_) (a' := ?_) (bA 18 110) rfl rfl (by kernel_rfl) (fun _ _ _ h => h) (Or.inl ⟨(by rfl), ?_⟩) ?_ ?_
      rotate_left
      ·intro w'
       go_simp
       with_reducible rfl
      rotate_left
      ·simp only [sp_]
       rfl
      refine pure_ (i := 7) (N := some 66) (v := ?_) (a' := ?_) (bA 18 238) rfl rfl (by kernel_rfl) (fun _ _ _ h => h) (Or.inl ⟨(by rfl), ?_⟩) ?_ ?_
      rotate_left
      ·intro w'
       go_simp
       with_reducible rfl
      rotate_left
      ·simp only [sp_]
       rfl
      refine pure_ (i := 8) (N := some 67) (v := ?_) (a' := ?_) (bA 18 494) rfl rfl (by kernel_rfl) (fun _ _ _ h => h) (Or.inl ⟨(by rfl), ?_⟩) ?_ ?_
      rotate_left
      ·intro w'
       go_simp
       with_reducible rfl
      rotate_left
      ·simp only [sp_]
       rfl
      refine pure_ (i := 13) (N := some 72) (v := ?_) (a' := ?_) (bA 18 8686) rfl rfl (by kernel_rfl) (fun _ _ _ h => h) (Or.inl ⟨(by rfl), ?_⟩) ?_ ?_
      rotate_left
      ·intro w'
       go_simp
       with_reducible rfl
      rotate_left
      ·simp only [sp_]
       rfl
      refine pure_ (i := 14) (N := some 73) (v := ?_) (a' := ?_) (bA 18 25070) rfl rfl (by kernel_rfl) (fun _ _ _ h => h) (Or.inl ⟨(by rfl), ?_⟩) ?_ ?_
      rotate_left
      ·intro w'
       go_simp
       with_reducible rfl
      rotate_left
      ·simp only [sp_]
       rfl
      refine pure_ (i := 15) (N := some 74) (v := ?_) (a' := ?_) (bA 18 57838) rfl rfl (by kernel_rfl) (fun _ _ _ h => h) (Or.inl ⟨(by rfl), ?_⟩) ?_ ?_
      rotate_left
      ·intro w'
       go_simp
       with_reducible rfl
      rotate_left
      ·simp only [sp_]
       rfl
      refine one_ (i := 0) (N := some 59) (bA 18 57839) rfl rfl (by kernel_rfl) (by decide) (fun K hK => ?_)
      refine Kd.R_lit_step (Kd.int .u8) w4.heap.size 5 (by rfl) (N := 59) rfl (xs := ([] : List Int)) (inner := []) (ok := fun k_ => some k_ ≠ ((Value.slice none 0 0) : Value).ownBlock) (okp := fun _ => False) ?lr ?lp (fun _ h => h.elim) (G.out.fresh _ (Nat.le_refl _)) (Below.refl _ _) G.out.size (by simp) ?_
      (case lr => first | (go_simp; done) | (go_simp; rfl))
      (case lp => exact Reps.none _ _)
      intro v1 w1 h1 hb hg hat
      have n1_ := Aside0.mk (G.out.app h1 hb hg (.inr hat))
      clear G h1 hb hg hat
      have G := n1_
      clear n1_
      refine hK.out _ _ trivial (fun hHeld => ?_)
      clear hK K
      refine norm_ (a' := ?_) ?_ ?_
      rotate_left
      ·show Act.put _ (some 59) _ = _
       simp only [sp_]
       rfl
      refine one_ (i := 4) (N := some 63) (bA 18 57855) rfl rfl (by kernel_rfl) (by decide) (fun K hK => ?_)
      refine Kd.R_append_rows_step (Kd.int .u8) w4.heap.size (by rfl) (.tmp 59) (.tmp 62) 22 5 (.int .u8 0) 1 rfl Tryd.underlying22 info5 rfl (by decide) (by omega) _ [] (xs.take i.toNat) _ _ _ (fun k_ => some k_ ≠ ((Value.slice none 0 0) : Value).ownBlock) (fun _ => False) rfl rfl G.out.1 ?aR (fun _ _ h => h) (fun _ h => h.elim) G.out.fresh (Below.refl _ _) G.out.size ?aL ?_
      (case aR => (have h_ := Kd.C_take (m := i.toNat) (G.out.reads HI.out OB.out).C.2.2 TL.out.2; rw [TL.out.1] at h_; exact h_))
      (case aL => simp only [List.length_nil]; have := LN.out; have := TL.out.2; omega)
      intro v1 w1 h1 hb hg hat
      have n1_ := Aside0.mk (G.out.app h1 hb hg hat)
      clear G h1 hb hg hat
      have G := n1_
      clear n1_
      refine hK.out _ _ trivial (fun hHeld => ?_)
      clear hK K
      refine norm_ (a' := ?_) ?_ ?_
      rotate_left
      ·show Act.put _ (some 63) _ = _
       simp only [sp_]
       rfl
      refine one_ (i := 9) (N := some 68) (bA 18 58367) rfl rfl (by kernel_rfl) (by decide) (fun K hK => ?_)
      refine goes_ Tryd.func46 (by kernel_rfl) rfl #[.pointer (some ⟨g, 0, none⟩), .int .i64 (z.size : Int)] (by rfl) rfl rfl Z18 ?_
      with_reducible refine (below_c (z.size : Int) G.out.cs G.out.bel).mono ?_
      rintro e w5 ⟨j, rfl, j0, j1, hi, hb, hk⟩
      refine ⟨_, rfl, ?_⟩
      have n1_ := Aside0.mk (G.out.call hi hb hk)
      clear G hi hb hk
      have G := n1_
      clear n1_
      replace j1 := j1 (by have := HZ.out; omega)
      replace j0 := eq_true j0
      replace j1 := eq_true j1
      refine hK.out _ _ trivial (fun hHeld => ?_)
      clear hK K
      refine norm_ (a' := ?_) ?_ ?_
      rotate_left
      ·show Act.put _ (some 68) _ = _
       simp only [sp_]
       rfl
      refine take_ (i := 10) (N := some 69) (v := ?_) (a' := ?_) (bA 18 59391) rfl rfl (by kernel_rfl) (fun _ _ _ h => h) (Or.inl ⟨(by rfl), ?_⟩) hHeld ?_ ?_
      rotate_left
      ·intro w' _
       go_simp
       with_reducible rfl
      rotate_left
      ·simp only [sp_]
       rfl
      refine one_ (i := 11) (N := some 70) (bA 18 61439) rfl rfl (by kernel_rfl) (by decide) (fun K hK => ?_)
      refine Kd.R_lit_step (Kd.int .u8) w4.heap.size 5 (by rfl) (N := 70) rfl (xs := ([?bx] : List Int)) (inner := [.int .u8 ?bx]) (ok := fun k_ => some k_ ≠ (v1 : Value).ownBlock) (okp := fun _ => False) ?lr ?lp (fun _ h => h.elim) (G.out.swap.fresh _ (Nat.le_refl _)) (Below.refl _ _) G.out.swap.size (by simp) ?_
      (case lr => first | (go_simp; done) | (go_simp; rfl))
      (case lp => exact Reps.one (show Kd.M (Kd.int .u8) _ _ _ _ [.int .u8 _] from rfl) (Reps.none _ _))
      intro v1 w1 h1 hb hg hat
      obtain ⟨Ay, cy, rfl⟩ := Kd.R_slice h1
      have n1_ : Aside0 (∃ b_ : Int, G2 (Kd.int .u8) 5 w0 w4 w1 g _ _ (.slice Ay 1 cy) [b_]) := ⟨⟨_, (G.out.swap.app h1 hb hg (.inr hat)).swap⟩⟩
      clear G h1 hb hg hat
      obtain ⟨b_, hG_⟩ := n1_.out
      have G := Aside0.mk hG_
      clear n1_ hG_
      refine hK.out _ _ trivial (fun hHeld => ?_)
      clear hK K
      refine norm_ (a' := ?_) ?_ ?_
      rotate_left
      ·show Act.put _ (some 70) _ = _
       simp only [sp_]
       rfl
      refine one_ (i := 12) (N := some 71) (bA 18 65535) rfl rfl (by kernel_rfl) (by decide) (fun K hK => ?_)
      refine Kd.R_append_rows_step (Kd.int .u8) w4.heap.size (by rfl) (.tmp 63) (.tmp 70) 22 5 (.int .u8 0) 1 rfl Tryd.underlying22 info5 rfl (by decide) (by omega) _ _ [b_] _ _ _ _ (fun _ => False) rfl rfl G.out.1 ?aR (fun _ _ h => h) (fun _ h => h.elim) G.out.fresh (Below.refl _ _) G.out.size ?aL ?_
      (case aR => exact (Kd.R_reads' G.out.2.1).2.2)
      (case aL => simp only [List.length_append, List.length_nil, List.length_cons]; have := LN.out; have := TL.out; omega)
      intro v1 w1 h1 hb hg hat
      have n1_ := Aside0.mk (G.out.app h1 hb hg hat)
      clear G h1 hb hg hat
      have G := n1_
      clear n1_
      refine hK.out _ _ trivial (fun hHeld => ?_)
      clear hK K
      refine norm_ (a' := ?_) ?_ ?_
      rotate_left
      ·show Act.put _ (some 71) _ = _
       simp only [sp_]
       rfl
      refine one_ (i := 16) (N := some 75) (bA 18 131071) rfl rfl (by kernel_rfl) (by decide) (fun K hK => ?_)
      refine Kd.R_append_rows_step (Kd.int .u8) w4.heap.size (by rfl) (.tmp 71) (.tmp 74) 22 5 (.int .u8 0) 1 rfl Tryd.underlying22 info5 rfl (by decide) (by omega) _ _ (xs.drop i.toNat) _ _ _ _ (fun _ => False) rfl rfl G.out.1 ?aR (fun _ _ h => h) (fun _ h => h.elim) G.out.fresh (Below.refl _ _) G.out.size ?aL ?_
      (case aR => (have h_ := Kd.C_drop (m := i.toNat) (G.out.reads HI.out OB.out).C.2.2 DL.out.2 HC.out; simp only [List.length_drop] at h_; rw [DL.out.1.1, DL.out.1.2]; exact h_))
      (case aL => simp only [List.length_append, List.length_nil, List.length_cons]; have := LN.out; have := TL.out; have := M3.out; omega)
      intro v1 w1 h1 hb hg hat
      have n1_ := Aside0.mk (G.out.app h1 hb hg hat)
      clear G h1 hb hg hat
      have G := n1_
      clear n1_
      refine hK.out _ _ trivial (fun hHeld => ?_)
      clear hK K
      refine norm_ (a' := ?_) ?_ ?_
      rotate_left
      ·show Act.put _ (some 75) _ = _
       simp only [sp_]
       rfl
      refine pure_ (i := 17) (N := some 7) (v := ?_) (a' := ?_) (bA 18 262143) rfl rfl (by kernel_rfl) (fun _ _ _ h => h) (Or.inl ⟨(by rfl), ?_⟩) ?_ ?_
      rotate_left
      ·intro w'
       go_simp
       with_reducible rfl
      rotate_left
      ·simp only [sp_]
       rfl
      refine done_ (by kernel_rfl) ?_

      go_wp2
      have e1 := wn.out
      have EL := Aside0.mk (show ∀ b_ : Int, ([] ++ xs.take i.toNat ++ [b_] ++ xs.drop i.toNat).length ≤ xs.length + 1 from (by intro b_; simp only [List.length_append, List.length_nil, List.length_cons, List.length_drop]; have := TL.out; omega))
      go_roundg (gk - 1)
      case measure => have := HN.out; omega
      case rel => exact ⟨_, _, rfl, ⟨(by rw [e1]; have := EL.out b_; have := HN.out; have := HP.out; omega)⟩, ⟨(Bs.of_R G.out.1).lower HK.out.1⟩, ⟨G.out.2.2.1⟩, ⟨G.out.2.2.2.1⟩, ⟨HK.out.trans G.out.2.2.2.2.1 (.inl rfl)⟩⟩
  ·have hcv := Kd.C_string (P := Tryd.prog) (A := A) (c := c) Tryd.underlying22 Tryd.underlying5 Tryd.underlying9 HR.out
   by_cases c3 : n > 0
   ·have c3b : decide (n > 0) = true := decide_eq_true c3
    have c4b : decide (0 < xs.length) = false := decide_eq_false (fun h => c1 ⟨c3, h⟩)
    clear c1 c3
    go_wp2
    go_ret
    exact ⟨_, rfl, (by rw [strOf_size]; have := HN.out; omega), HI.out, HB.out, HK.out⟩
   ·have c3b : decide (n > 0) = false := decide_eq_false c3
    clear c1 c3
    go_wp2
    go_ret
    exact ⟨_, rfl, (by rw [strOf_size]; have := HN.out; omega), HI.out, HB.out, HK.out⟩
end Go.Proofs.YtokhjhkkncbjeaaDoor.PFnBlocks
