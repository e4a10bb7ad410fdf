-- Written by a program of this session (wip/tools/pp.py over the kit's print).
import Derived.Test.YtckgkhlgnblblaaPFnExactNewClusterx0
import Derived.Test.YtckgkhlgnblblaaPFnExactNewClusterx1
import Derived.Test.YtckgkhlgnblblaaPFnExactNewClusterx4
import Derived.Test.YtckgkhlgnblblaaPFnExactNewClusterx5
import Derived.Test.YtckgkhlgnblblaaPFnExactNewClusterx7
namespace Go.Proofs.Ytckgkhlgnblblaa.PFnExactNewCluster
open Go.RowKit Go.Proofs.YtckgkhlgnblblaaW.PrintWords Go.Proofs.YtckgkhlgnblblaaW.PrintLast Go.Proofs.YtckgkhlgnblblaaW.PrintMore
attribute [local go_sem] max2_int min2_int max_two min_two max_three min_three max_four min_four
attribute [local go_sem high] str_gtr str_leq str_geq
set_option linter.unusedVariables false
set_option linter.unusedSimpArgs false

/-! ### laws_FnExactNewCluster: function 10 -/
def laws_FnExactNewCluster.f (k : Nat) (a0 : Int) : Option Bool :=
 (spec_NewCluster.f k a0).bind fun s => (impl_NewCluster.f k a0).bind fun g => (laws_eqCluster.f k g.1 g.2.1 s.1 s.2.1).bind fun e => if e = true ∧ g.2.2 = s.2.2 ∧ g.2.1.length = 0 then (laws_markCluster.f k g.1 g.2.1 1).bind fun m => (laws_heldCluster.f k m.2 g.2.1 1).bind fun q => if 0 ≤ q ∧ q = m.1 then some true else none else none
set_option maxHeartbeats 16000000 in
set_option maxRecDepth 100000 in
theorem laws_FnExactNewCluster.calls (k : Nat) (a0 : Int) (r : Bool) (w : World) (h : laws_FnExactNewCluster.f k a0 = some r) :
  Calls Try.prog 10 #[.int .i64 a0] w fun e w' => e = .returned (.bool r) ∧ Below w.heap.size w w' := by
 have eg1 : ∀ args w, (callFunc 49 args).run Try.prog w = .ok (.enter 49 args) w := enters_ Try.func49 (by kernel_rfl) rfl
 have eg2 : ∀ args w, (callFunc 50 args).run Try.prog w = .ok (.enter 50 args) w := enters_ Try.func50 (by kernel_rfl) rfl
 have eg3 : ∀ args w, (callFunc 51 args).run Try.prog w = .ok (.enter 51 args) w := enters_ Try.func51 (by kernel_rfl) rfl
 have eg4 : ∀ args w, (callFunc 52 args).run Try.prog w = .ok (.enter 52 args) w := enters_ Try.func52 (by kernel_rfl) rfl
 have eg5 : ∀ args w, (callFunc 53 args).run Try.prog w = .ok (.enter 53 args) w := enters_ Try.func53 (by kernel_rfl) rfl
 have hu77 := Try.underlying77
 unfold laws_FnExactNewCluster.f at h
 obtain ⟨⟨s1, s2, s3⟩, hs, ha⟩ := Option.bind_eq_some_iff.1 h
 clear h
 obtain ⟨⟨g1, g2, g3⟩, hg, hb⟩ := Option.bind_eq_some_iff.1 ha
 clear ha
 obtain ⟨e1, he, hc⟩ := Option.bind_eq_some_iff.1 hb
 clear hb
 replace hc : (if e1 = true ∧ g3 = s3 ∧ g2.length = 0 then (laws_markCluster.f k g1 g2 1).bind fun m => (laws_heldCluster.f k m.2 g2 1).bind fun q => if 0 ≤ q ∧ q = m.1 then some true else none else none) = some r := hc
 replace he : laws_eqCluster.f k g1 g2 s1 s2 = some e1 := he
 by_cases c1 : e1 = true ∧ g3 = s3 ∧ g2.length = 0
 ·rw [if_pos c1] at hc
  obtain ⟨rfl, rfl, c2⟩ := c1
  obtain rfl := List.length_eq_zero_iff.1 c2
  clear c2
  obtain ⟨⟨m1, m2⟩, hm, hd⟩ := Option.bind_eq_some_iff.1 hc
  clear hc
  obtain ⟨q, hq, h⟩ := Option.bind_eq_some_iff.1 hd
  clear hd
  replace h : (if 0 ≤ q ∧ q = m1 then some true else none) = some r := h
  replace hq : laws_heldCluster.f k m2 [] 1 = some q := hq
  by_cases c3 : 0 ≤ q ∧ q = m1
  ·rw [if_pos c3] at h
   obtain rfl := Option.some.inj h
   obtain ⟨c4, rfl⟩ := c3
   have hq0 : decide (q < 0) = false := decide_eq_false (by omega)
   have hqq : (q != q) = false := by simp
   have hbb : (g3 != g3) = false := by simp
   have HS := Aside0.mk hs
   have HG := Aside0.mk hg
   have HE := Aside0.mk he
   have HM := Aside0.mk hm
   have HQ := Aside0.mk hq
   clear hs hg he hm hq h c4
   go_enter Try.func10, Try.ntmps10
   go_wp2_with fail
   refine (spec_NewCluster.calls k a0 s1 s2 g3 _ HS.out).mono ?_
   rintro e w1 ⟨v0, v1, rfl, hR, hS, hb⟩
   obtain ⟨As, cs, rfl, hcs, hCs⟩ := Kd.R_reads hR
   obtain ⟨Am, cm, rfl, hcm, hCm⟩ := Kd.S_reads hS
   have HBa := Aside0.mk (below_alloc hb (.cells #[.slice As s1.length cs, .slice Am s2.length cm] 77))
   have BK3 : Aside0 ((w1.alloc (.cells #[.slice As s1.length cs, .slice Am s2.length cm] 77)).heap[w1.heap.size]? = some (.cells #[.slice As s1.length cs, .slice Am s2.length cm] 77 (0, 0))) := ⟨heap_alloc_new w1 _⟩
   have CS := Aside0.mk (Kd.C_alloc hCs (.cells #[.slice As s1.length cs, .slice Am s2.length cm] 77))
   have CM := Aside0.mk (Kd.C_alloc hCm (.cells #[.slice As s1.length cs, .slice Am s2.length cm] 77))
   have LS := Aside0.mk hcs
   have LM := Aside0.mk hcm
   clear hR hS hb hcs hCs hcm hCm
   go_wp2_with fail
   generalize w1.heap.size = b3 at BK3 ⊢
   generalize w1.alloc (.cells #[.slice As s1.length cs, .slice Am s2.length cm] 77) = w2 at HBa BK3 CS CM ⊢
   refine (impl_NewCluster.calls k a0 g1 [] g3 _ HG.out).mono ?_
   rintro e w3 ⟨v0, v1, rfl, hR, hS, hb⟩
   obtain ⟨Ag, cg, rfl⟩ := Kd.R_slice hR
   obtain ⟨An, cn_, hv1⟩ := Kd.S_slice hS
   rw [show ([] : List S182).length = 0 from rfl] at hv1
   subst hv1
   have HO := Aside0.mk (Kd.R_alloc hR (.cells #[.slice Ag g1.length cg, .slice An 0 cn_] 77))
   have HB := Aside0.mk (below_alloc hb (.cells #[.slice Ag g1.length cg, .slice An 0 cn_] 77))
   have BK5 : Aside0 ((w3.alloc (.cells #[.slice Ag g1.length cg, .slice An 0 cn_] 77)).heap[w3.heap.size]? = some (.cells #[.slice Ag g1.length cg, .slice An 0 cn_] 77 (0, 0))) := ⟨heap_alloc_new w3 _⟩
   clear hR hS hb
   have hx5_0 : (w3.alloc (.cells #[.slice Ag g1.length cg, .slice An 0 cn_] 77)).cell? ⟨w3.heap.size, 0, none⟩ = some (.slice Ag g1.length cg) := (blk_cell BK5.out 0).trans rfl
   have hx5_1 : (w3.alloc (.cells #[.slice Ag g1.length cg, .slice An 0 cn_] 77)).cell? ⟨w3.heap.size, 1, none⟩ = some (.slice An 0 cn_) := (blk_cell BK5.out 1).trans rfl
   have hx3_0 : (w3.alloc (.cells #[.slice Ag g1.length cg, .slice An 0 cn_] 77)).cell? ⟨b3, 0, none⟩ = some (.slice As s1.length cs) := (blk_cell (blk_below BK3.out HB.out) 0).trans rfl
   have hx3_1 : (w3.alloc (.cells #[.slice Ag g1.length cg, .slice An 0 cn_] 77)).cell? ⟨b3, 1, none⟩ = some (.slice Am s2.length cm) := (blk_cell (blk_below BK3.out HB.out) 1).trans rfl
   go_wp2_with fail
   clear hx5_0 hx5_1 hx3_0 hx3_1
   generalize w3.heap.size = b5 at BK5 ⊢
   generalize w3.alloc (.cells #[.slice Ag g1.length cg, .slice An 0 cn_] 77) = w4 at HO HB BK5 ⊢
   refine (laws_eqCluster.calls k Ag cg g1 An cn_ [] As cs s1 Am cm s2 true _ (Kd.R_reads' HO.out).2.2 (Kd.R_reads' HO.out).2.1 (nilC _ _ _) (Nat.zero_le _) (Kd.C_below CS.out HB.out) LS.out (Kd.C_below CM.out HB.out) LM.out HE.out).mono ?_
   rintro e w5 ⟨rfl, hb⟩
   have n1_ := Aside0.mk (Kd.R_below HO.out hb)
   have n2_ := Aside0.mk (below_step HB.out hb)
   have n3_ := Aside0.mk (blk_below BK5.out hb)
   clear HO HB BK5 hb
   have HO := n1_
   have HB := n2_
   have BK5 := n3_
   clear n1_ n2_ n3_
   have hx5_0 : w5.cell? ⟨b5, 0, none⟩ = some (.slice Ag g1.length cg) := (blk_cell BK5.out 0).trans rfl
   have hx5_1 : w5.cell? ⟨b5, 1, none⟩ = some (.slice An 0 cn_) := (blk_cell BK5.out 1).trans rfl
   go_wp2_with fail
   clear hx5_0 hx5_1
   refine (laws_markCluster.calls k _ g1 An cn_ [] 1 q m2 (fun _ => True) w2 _ HB.out HO.out HM.out).mono ?_
   rintro e w6 ⟨rfl, hR, hB, hk⟩
   have n3_ := Aside0.mk (blk_kept BK5.out hk (fun e_ => Kd.R_ne HO.out BK5.out (by decide) e_.symm))
   clear HO HB BK5 hk
   have HO := Aside0.mk hR
   have HB := Aside0.mk hB
   have BK5 := n3_
   clear n3_ hR hB
   have LE := Aside0.mk (Kd.R_reads' HO.out).1
   have hx5_0 : w6.cell? ⟨b5, 0, none⟩ = some (.slice Ag g1.length cg) := (blk_cell BK5.out 0).trans rfl
   have hx5_1 : w6.cell? ⟨b5, 1, none⟩ = some (.slice An 0 cn_) := (blk_cell BK5.out 1).trans rfl
   go_wp2_with fail
   clear hx5_0 hx5_1
   have hc_ := laws_heldCluster.calls k Ag cg m2 An cn_ [] 1 q w6 (Kd.R_reads' HO.out).2.2 (by rw [← LE.out]; exact (Kd.R_reads' HO.out).2.1) (nilC _ _ _) (Nat.zero_le _) HQ.out
   rw [← LE.out] at hc_
   refine hc_.mono ?_
   clear hc_
   rintro e w7 ⟨rfl, hb⟩
   have n1_ := Aside0.mk (Kd.R_below HO.out hb)
   have n2_ := Aside0.mk (below_step HB.out hb)
   have n3_ := Aside0.mk (blk_below BK5.out hb)
   clear HO HB BK5 hb
   have HO := n1_
   have HB := n2_
   have BK5 := n3_
   clear n1_ n2_ n3_
   go_wp2_with fail
   refine (impl_NewCluster.calls k a0 g1 [] g3 _ HG.out).mono ?_
   rintro e w8 ⟨v0, v1, rfl, hR, hS, hb⟩
   obtain ⟨Ah, ch, rfl, hch, hCh⟩ := Kd.R_reads hR
   obtain ⟨Ai, ci_, hv1⟩ := Kd.S_slice hS
   rw [show ([] : List S182).length = 0 from rfl] at hv1
   subst hv1
   have n1_ := Aside0.mk (Kd.R_alloc (Kd.R_below HO.out hb) (.cells #[.slice Ah g1.length ch, .slice Ai 0 ci_] 77))
   have n2_ := Aside0.mk (below_alloc (below_step HB.out hb) (.cells #[.slice Ah g1.length ch, .slice Ai 0 ci_] 77))
   have n3_ := Aside0.mk (blk_alloc (blk_below BK5.out hb) (.cells #[.slice Ah g1.length ch, .slice Ai 0 ci_] 77))
   have CH := Aside0.mk (Kd.C_alloc hCh (.cells #[.slice Ah g1.length ch, .slice Ai 0 ci_] 77))
   have LH := Aside0.mk hch
   have BK9 : Aside0 ((w8.alloc (.cells #[.slice Ah g1.length ch, .slice Ai 0 ci_] 77)).heap[w8.heap.size]? = some (.cells #[.slice Ah g1.length ch, .slice Ai 0 ci_] 77 (0, 0))) := ⟨heap_alloc_new w8 _⟩
   clear HO HB BK5 hb hR hS hch hCh
   have HO := n1_
   have HB := n2_
   have BK5 := n3_
   clear n1_ n2_ n3_
   have hx5_0 : (w8.alloc (.cells #[.slice Ah g1.length ch, .slice Ai 0 ci_] 77)).cell? ⟨w8.heap.size, 0, none⟩ = some (.slice Ah g1.length ch) := (blk_cell BK9.out 0).trans rfl
   have hx5_1 : (w8.alloc (.cells #[.slice Ah g1.length ch, .slice Ai 0 ci_] 77)).cell? ⟨w8.heap.size, 1, none⟩ = some (.slice Ai 0 ci_) := (blk_cell BK9.out 1).trans rfl
   have hx3_0 : (w8.alloc (.cells #[.slice Ah g1.length ch, .slice Ai 0 ci_] 77)).cell? ⟨b3, 0, none⟩ = some (.slice As s1.length cs) := (blk_cell (blk_below BK3.out HB.out) 0).trans rfl
   have hx3_1 : (w8.alloc (.cells #[.slice Ah g1.length ch, .slice Ai 0 ci_] 77)).cell? ⟨b3, 1, none⟩ = some (.slice Am s2.length cm) := (blk_cell (blk_below BK3.out HB.out) 1).trans rfl
   go_wp2_with fail
   clear hx5_0 hx5_1 hx3_0 hx3_1 BK9
   generalize w8.heap.size = b9
   generalize w8.alloc (.cells #[.slice Ah g1.length ch, .slice Ai 0 ci_] 77) = w9 at HO HB BK5 CH ⊢
   refine (laws_eqCluster.calls k Ah ch g1 Ai ci_ [] As cs s1 Am cm s2 true _ CH.out LH.out (nilC _ _ _) (Nat.zero_le _) (Kd.C_below CS.out HB.out) LS.out (Kd.C_below CM.out HB.out) LM.out HE.out).mono ?_
   rintro e w10 ⟨rfl, hb⟩
   have n1_ := Aside0.mk (Kd.R_below HO.out hb)
   have n2_ := Aside0.mk (below_step HB.out hb)
   have n3_ := Aside0.mk (blk_below BK5.out hb)
   clear HO HB BK5 hb CH LH
   have HO := n1_
   have HB := n2_
   have BK5 := n3_
   clear n1_ n2_ n3_
   have hx5_0 : w10.cell? ⟨b5, 0, none⟩ = some (.slice Ag g1.length cg) := (blk_cell BK5.out 0).trans rfl
   have hx5_1 : w10.cell? ⟨b5, 1, none⟩ = some (.slice An 0 cn_) := (blk_cell BK5.out 1).trans rfl
   go_wp2_with fail
   clear hx5_0 hx5_1
   have hc_ := laws_heldCluster.calls k Ag cg m2 An cn_ [] 1 q w10 (Kd.R_reads' HO.out).2.2 (by rw [← LE.out]; exact (Kd.R_reads' HO.out).2.1) (nilC _ _ _) (Nat.zero_le _) HQ.out
   rw [← LE.out] at hc_
   refine hc_.mono ?_
   clear hc_
   rintro e w11 ⟨rfl, hb⟩
   have n2_ := Aside0.mk (below_step HBa.out (below_step HB.out hb))
   clear HO HB BK5 hb
   go_wp2
   go_ret
   exact ⟨rfl, n2_.out⟩
  ·rw [if_neg c3] at h
   cases h
 ·rw [if_neg c1] at hc
  cases hc
/-- THE ONE PURE STATEMENT of laws_FnExactNewCluster. -/
def laws_FnExactNewCluster.Pure : Prop := ∀ (a0 : Int), (Lit.int .i64 a0).wf = true → ∃ k, laws_FnExactNewCluster.f k a0 = some true
theorem laws_FnExactNewCluster.walk (P : laws_FnExactNewCluster.Pure) (a0 : Int) (w : World) (w0 : (Lit.int .i64 a0).wf = true) :
  Calls Try.prog 10 #[.int .i64 a0] w fun e w' => e = .returned (.bool true) ∧ Below w.heap.size w w' := by
 obtain ⟨k, h⟩ := P a0 w0
 refine (laws_FnExactNewCluster.calls k a0 true w h).mono ?_
 rintro e w' ⟨rfl, hd⟩
 exact ⟨rfl, hd⟩


end Go.Proofs.Ytckgkhlgnblblaa.PFnExactNewCluster
