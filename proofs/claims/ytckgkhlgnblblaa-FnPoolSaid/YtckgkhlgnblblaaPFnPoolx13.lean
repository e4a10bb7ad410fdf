-- Written by a program of this session (wip/tools/pp.py over the kit's print).
import Derived.Test.YtckgkhlgnblblaaPFnPoolx0
import Derived.Test.YtckgkhlgnblblaaPFnPoolx1
import Derived.Test.YtckgkhlgnblblaaPFnPoolx2
import Derived.Test.YtckgkhlgnblblaaPFnPoolx4
import Derived.Test.YtckgkhlgnblblaaPFnPoolx5
import Derived.Test.YtckgkhlgnblblaaPFnPoolx7
import Derived.Test.YtckgkhlgnblblaaPFnPoolx8
import Derived.Test.YtckgkhlgnblblaaPFnPoolx10
import Derived.Test.YtckgkhlgnblblaaPFnPoolx11
import Derived.Test.YtckgkhlgnblblaaPFnPoolx12
namespace Go.Proofs.Ytckgkhlgnblblaa.PFnPool
open Go.RowKit Go.Proofs.YtckgkhlgnblblaaW.PrintWords Go.Proofs.YtckgkhlgnblblaaW.PrintLast Go.Proofs.YtckgkhlgnblblaaW.PrintMore
attribute [local go_sem] max2_int min2_int max_two min_two max_three min_three max_four min_four
attribute [local go_sem high] str_gtr str_leq str_geq
set_option linter.unusedVariables false
set_option linter.unusedSimpArgs false

attribute [local go_sem high] eqA86
/-! ### laws_FnPool: function 11 -/
mutual
def laws_FnPool.j0 : Nat → List (S86) → List (S86) → Bool → Bool → Int → ByteArray → Option (Bool)
 | 0, _, _, _, _, _, _ => none
 | k + 1, x3, x5, x6, x120, x443000, x443001 => if x120 = true then (none) else (if x6 = true then (laws_FnPool.l0 k x3 x5 0 x5 0 x443000 x443001 1000000001 (⟨#[]⟩ : ByteArray)) else (some ((x5.length : Int) == 0)))
def laws_FnPool.l0 : Nat → List (S86) → List (S86) → Int → List (S86) → Int → Int → ByteArray → Int → ByteArray → Option (Bool)
 | 0, _, _, _, _, _, _, _, _, _ => none
 | k + 1, x3, x5, x20, x21, x22, x443000, x443001, x485000, x485001 => if x22 < (x5.length : Int) then ((impl_Next.f k x21).bind fun bt485 => (if bt485.2.2.2 = true then ((impl_PoolOk.f k bt485.2.2.1).bind fun t492 => (if t492 = true then (if (bt485.2.2.1.length : Int) = (wrap64 ((x21.length : Int) - 1)) then (if bt485.1 > x485000 then (none) else (if bt485.1 = x485000 then (laws_FnPool.j2 k x3 x5 x20 x22 bt485.2.2.1 (Op.bytesLess bt485.2.1.toList x485001.toList) x443000 x443001 bt485.1 bt485.2.1) else (laws_FnPool.j2 k x3 x5 x20 x22 bt485.2.2.1 false x443000 x443001 bt485.1 bt485.2.1))) else (none)) else (none))) else (none))) else (laws_FnPool.l1 k x3 x20 x21 0 0 x443000 x443001)
def laws_FnPool.j2 : Nat → List (S86) → List (S86) → Int → Int → List (S86) → Bool → Int → ByteArray → Int → ByteArray → Option (Bool)
 | 0, _, _, _, _, _, _, _, _, _, _ => none
 | k + 1, x3, x5, x20, x22, x24, x175, x443000, x443001, x492000, x492001 => if x175 = true then (none) else (if (x492000 == x443000 && (x492001.toList == x443001.toList)) = true then (laws_FnPool.l0 k x3 x5 (wrap64 (x20 + 1)) x24 (wrap64 (x22 + 1)) x443000 x443001 x492000 x492001) else (laws_FnPool.l0 k x3 x5 x20 x24 (wrap64 (x22 + 1)) x443000 x443001 x492000 x492001))
def laws_FnPool.l1 : Nat → List (S86) → Int → List (S86) → Int → Int → Int → ByteArray → Option (Bool)
 | 0, _, _, _, _, _, _, _ => none
 | k + 1, x3, x20, x21, x26, x27, x443000, x443001 => if x27 < (x3.length : Int) then (if 0 ≤ x27 then (if (((rd_T86 x3 x27).f0) == x443000 && ((((rd_T86 x3 x27).f1).toList) == x443001.toList)) = true then (laws_FnPool.l1 k x3 x20 x21 (wrap64 (x26 + 1)) (wrap64 (x27 + 1)) x443000 x443001) else (laws_FnPool.l1 k x3 x20 x21 x26 (wrap64 (x27 + 1)) x443000 x443001)) else (none)) else (if x20 = (wrap64 (x26 + 1)) then (some ((x21.length : Int) == 0)) else (none))
end
def laws_FnPool.f (k : Nat) (l0 : List Int) : Option (Bool) := (laws_big.f l0).bind fun t436 => (if t436 = true then (some true) else ((spec_DrawOffered.f k l0).bind fun bt437 => ((impl_Offered.f k bt437.1 bt437.2.1 bt437.2.2).bind fun bt443 => ((spec_DrawNext.f k l0).bind fun t447 => ((impl_Next.f k t447).bind fun bt450 => ((spec_DrawChosen.f k l0).bind fun bt457 => ((impl_Chosen.f k bt457.1 bt457.2).bind fun t461 => ((spec_Offered.f k bt437.1 bt437.2.1 bt437.2.2).bind fun bt464 => (if (bt443.2 != bt464.2) = true then (none) else ((laws_likeOffers.f k bt443.1 bt464.1).bind fun t468 => (if t468 = true then ((impl_PoolOk.f k t447).bind fun t469 => ((spec_PoolOk.f k t447).bind fun t470 => (if (t469 != t470) = true then (none) else ((spec_Chosen.f k bt457.1 bt457.2).bind fun t471 => ((laws_likeTexts.f k t461 t471).bind fun t474 => (if t474 = true then ((spec_Next.f k t447).bind fun bt475 => (if (bt450.2.2.2 != bt475.2.2.2) = true then (none) else (if (!(bt450.1 == bt475.1) || (!(bt450.2.1.toList == bt475.2.1.toList))) = true then (none) else ((laws_likeOffers.f k bt450.2.2.1 bt475.2.2.1).bind fun t482 => (if t482 = true then (if bt443.2 = true then ((impl_PoolOk.f k bt443.1).bind fun t483 => (if t483 = true then (laws_FnPool.j0 k bt437.1 bt443.1 bt443.2 ((bt443.1.length : Int) != (wrap64 ((bt437.1.length : Int) + 1))) bt437.2.1 bt437.2.2) else (none))) else (laws_FnPool.j0 k bt437.1 bt443.1 bt443.2 false bt437.2.1 bt437.2.2)) else (none)))))) else (none))))))) else (none))))))))))))
theorem laws_FnPool.mono_l : ∀ k, (∀ y0 y1 y2 y3 y4 y5, LeO (laws_FnPool.j0 k y0 y1 y2 y3 y4 y5) (laws_FnPool.j0 (k + 1) y0 y1 y2 y3 y4 y5)) ∧ (∀ y0 y1 y2 y3 y4 y5 y6 y7 y8, LeO (laws_FnPool.l0 k y0 y1 y2 y3 y4 y5 y6 y7 y8) (laws_FnPool.l0 (k + 1) y0 y1 y2 y3 y4 y5 y6 y7 y8)) ∧ (∀ y0 y1 y2 y3 y4 y5 y6 y7 y8 y9, LeO (laws_FnPool.j2 k y0 y1 y2 y3 y4 y5 y6 y7 y8 y9) (laws_FnPool.j2 (k + 1) y0 y1 y2 y3 y4 y5 y6 y7 y8 y9)) ∧ (∀ y0 y1 y2 y3 y4 y5 y6, LeO (laws_FnPool.l1 k y0 y1 y2 y3 y4 y5 y6) (laws_FnPool.l1 (k + 1) y0 y1 y2 y3 y4 y5 y6))
 | 0 => ⟨fun _ _ _ _ _ _ r h => by simp [laws_FnPool.j0] at h, fun _ _ _ _ _ _ _ _ _ r h => by simp [laws_FnPool.l0] at h, fun _ _ _ _ _ _ _ _ _ _ r h => by simp [laws_FnPool.j2] at h, fun _ _ _ _ _ _ _ r h => by simp [laws_FnPool.l1] at h⟩
 | k + 1 => by
  obtain ⟨ih0, ih1, ih2, ih3⟩ := laws_FnPool.mono_l k
  refine ⟨?_, ?_, ?_, ?_⟩
  ·intro y0 y1 y2 y3 y4 y5
   unfold laws_FnPool.j0
   repeat' first
   | (with_reducible exact ih0 _ _ _ _ _ _)
   | (with_reducible exact ih1 _ _ _ _ _ _ _ _ _)
   | (with_reducible exact ih2 _ _ _ _ _ _ _ _ _ _)
   | (with_reducible exact ih3 _ _ _ _ _ _ _)
   | (with_reducible exact impl_Chosen.mono _ _ _)
   | (with_reducible exact impl_Next.mono _ _)
   | (with_reducible exact impl_Offered.mono _ _ _ _)
   | (with_reducible exact impl_PoolOk.mono _ _)
   | (with_reducible exact laws_likeOffers.mono _ _ _)
   | (with_reducible exact laws_likeTexts.mono _ _ _)
   | (with_reducible exact spec_Chosen.mono _ _ _)
   | (with_reducible exact spec_DrawChosen.mono _ _)
   | (with_reducible exact spec_DrawNext.mono _ _)
   | (with_reducible exact spec_DrawOffered.mono _ _)
   | (with_reducible exact spec_Next.mono _ _)
   | (with_reducible exact spec_Offered.mono _ _ _ _)
   | (with_reducible exact spec_PoolOk.mono _ _)
   | (with_reducible exact LeO.refl _)
   | (with_reducible exact LeO.none _)
   | (with_reducible refine LeO.ite ?_ ?_)
   | (with_reducible refine LeO.bind ?_ (fun _ => ?_))
   | exact ih0 _ _ _ _ _ _
   | exact ih1 _ _ _ _ _ _ _ _ _
   | exact ih2 _ _ _ _ _ _ _ _ _ _
   | exact ih3 _ _ _ _ _ _ _
   | exact impl_Chosen.mono _ _ _
   | exact impl_Next.mono _ _
   | exact impl_Offered.mono _ _ _ _
   | exact impl_PoolOk.mono _ _
   | exact laws_likeOffers.mono _ _ _
   | exact laws_likeTexts.mono _ _ _
   | exact spec_Chosen.mono _ _ _
   | exact spec_DrawChosen.mono _ _
   | exact spec_DrawNext.mono _ _
   | exact spec_DrawOffered.mono _ _
   | exact spec_Next.mono _ _
   | exact spec_Offered.mono _ _ _ _
   | exact spec_PoolOk.mono _ _
   | exact LeO.none _
   | refine LeO.ite ?_ ?_
   | refine LeO.bind ?_ (fun _ => ?_)
  ·intro y0 y1 y2 y3 y4 y5 y6 y7 y8
   unfold laws_FnPool.l0
   repeat' first
   | (with_reducible exact ih0 _ _ _ _ _ _)
   | (with_reducible exact ih1 _ _ _ _ _ _ _ _ _)
   | (with_reducible exact ih2 _ _ _ _ _ _ _ _ _ _)
   | (with_reducible exact ih3 _ _ _ _ _ _ _)
   | (with_reducible exact impl_Chosen.mono _ _ _)
   | (with_reducible exact impl_Next.mono _ _)
   | (with_reducible exact impl_Offered.mono _ _ _ _)
   | (with_reducible exact impl_PoolOk.mono _ _)
   | (with_reducible exact laws_likeOffers.mono _ _ _)
   | (with_reducible exact laws_likeTexts.mono _ _ _)
   | (with_reducible exact spec_Chosen.mono _ _ _)
   | (with_reducible exact spec_DrawChosen.mono _ _)
   | (with_reducible exact spec_DrawNext.mono _ _)
   | (with_reducible exact spec_DrawOffered.mono _ _)
   | (with_reducible exact spec_Next.mono _ _)
   | (with_reducible exact spec_Offered.mono _ _ _ _)
   | (with_reducible exact spec_PoolOk.mono _ _)
   | (with_reducible exact LeO.refl _)
   | (with_reducible exact LeO.none _)
   | (with_reducible refine LeO.ite ?_ ?_)
   | (with_reducible refine LeO.bind ?_ (fun _ => ?_))
   | exact ih0 _ _ _ _ _ _
   | exact ih1 _ _ _ _ _ _ _ _ _
   | exact ih2 _ _ _ _ _ _ _ _ _ _
   | exact ih3 _ _ _ _ _ _ _
   | exact impl_Chosen.mono _ _ _
   | exact impl_Next.mono _ _
   | exact impl_Offered.mono _ _ _ _
   | exact impl_PoolOk.mono _ _
   | exact laws_likeOffers.mono _ _ _
   | exact laws_likeTexts.mono _ _ _
   | exact spec_Chosen.mono _ _ _
   | exact spec_DrawChosen.mono _ _
   | exact spec_DrawNext.mono _ _
   | exact spec_DrawOffered.mono _ _
   | exact spec_Next.mono _ _
   | exact spec_Offered.mono _ _ _ _
   | exact spec_PoolOk.mono _ _
   | exact LeO.none _
   | refine LeO.ite ?_ ?_
   | refine LeO.bind ?_ (fun _ => ?_)
  ·intro y0 y1 y2 y3 y4 y5 y6 y7 y8 y9
   unfold laws_FnPool.j2
   repeat' first
   | (with_reducible exact ih0 _ _ _ _ _ _)
   | (with_reducible exact ih1 _ _ _ _ _ _ _ _ _)
   | (with_reducible exact ih2 _ _ _ _ _ _ _ _ _ _)
   | (with_reducible exact ih3 _ _ _ _ _ _ _)
   | (with_reducible exact impl_Chosen.mono _ _ _)
   | (with_reducible exact impl_Next.mono _ _)
   | (with_reducible exact impl_Offered.mono _ _ _ _)
   | (with_reducible exact impl_PoolOk.mono _ _)
   | (with_reducible exact laws_likeOffers.mono _ _ _)
   | (with_reducible exact laws_likeTexts.mono _ _ _)
   | (with_reducible exact spec_Chosen.mono _ _ _)
   | (with_reducible exact spec_DrawChosen.mono _ _)
   | (with_reducible exact spec_DrawNext.mono _ _)
   | (with_reducible exact spec_DrawOffered.mono _ _)
   | (with_reducible exact spec_Next.mono _ _)
   | (with_reducible exact spec_Offered.mono _ _ _ _)
   | (with_reducible exact spec_PoolOk.mono _ _)
   | (with_reducible exact LeO.refl _)
   | (with_reducible exact LeO.none _)
   | (with_reducible refine LeO.ite ?_ ?_)
   | (with_reducible refine LeO.bind ?_ (fun _ => ?_))
   | exact ih0 _ _ _ _ _ _
   | exact ih1 _ _ _ _ _ _ _ _ _
   | exact ih2 _ _ _ _ _ _ _ _ _ _
   | exact ih3 _ _ _ _ _ _ _
   | exact impl_Chosen.mono _ _ _
   | exact impl_Next.mono _ _
   | exact impl_Offered.mono _ _ _ _
   | exact impl_PoolOk.mono _ _
   | exact laws_likeOffers.mono _ _ _
   | exact laws_likeTexts.mono _ _ _
   | exact spec_Chosen.mono _ _ _
   | exact spec_DrawChosen.mono _ _
   | exact spec_DrawNext.mono _ _
   | exact spec_DrawOffered.mono _ _
   | exact spec_Next.mono _ _
   | exact spec_Offered.mono _ _ _ _
   | exact spec_PoolOk.mono _ _
   | exact LeO.none _
   | refine LeO.ite ?_ ?_
   | refine LeO.bind ?_ (fun _ => ?_)
  ·intro y0 y1 y2 y3 y4 y5 y6
   unfold laws_FnPool.l1
   repeat' first
   | (with_reducible exact ih0 _ _ _ _ _ _)
   | (with_reducible exact ih1 _ _ _ _ _ _ _ _ _)
   | (with_reducible exact ih2 _ _ _ _ _ _ _ _ _ _)
   | (with_reducible exact ih3 _ _ _ _ _ _ _)
   | (with_reducible exact impl_Chosen.mono _ _ _)
   | (with_reducible exact impl_Next.mono _ _)
   | (with_reducible exact impl_Offered.mono _ _ _ _)
   | (with_reducible exact impl_PoolOk.mono _ _)
   | (with_reducible exact laws_likeOffers.mono _ _ _)
   | (with_reducible exact laws_likeTexts.mono _ _ _)
   | (with_reducible exact spec_Chosen.mono _ _ _)
   | (with_reducible exact spec_DrawChosen.mono _ _)
   | (with_reducible exact spec_DrawNext.mono _ _)
   | (with_reducible exact spec_DrawOffered.mono _ _)
   | (with_reducible exact spec_Next.mono _ _)
   | (with_reducible exact spec_Offered.mono _ _ _ _)
   | (with_reducible exact spec_PoolOk.mono _ _)
   | (with_reducible exact LeO.refl _)
   | (with_reducible exact LeO.none _)
   | (with_reducible refine LeO.ite ?_ ?_)
   | (with_reducible refine LeO.bind ?_ (fun _ => ?_))
   | exact ih0 _ _ _ _ _ _
   | exact ih1 _ _ _ _ _ _ _ _ _
   | exact ih2 _ _ _ _ _ _ _ _ _ _
   | exact ih3 _ _ _ _ _ _ _
   | exact impl_Chosen.mono _ _ _
   | exact impl_Next.mono _ _
   | exact impl_Offered.mono _ _ _ _
   | exact impl_PoolOk.mono _ _
   | exact laws_likeOffers.mono _ _ _
   | exact laws_likeTexts.mono _ _ _
   | exact spec_Chosen.mono _ _ _
   | exact spec_DrawChosen.mono _ _
   | exact spec_DrawNext.mono _ _
   | exact spec_DrawOffered.mono _ _
   | exact spec_Next.mono _ _
   | exact spec_Offered.mono _ _ _ _
   | exact spec_PoolOk.mono _ _
   | exact LeO.none _
   | refine LeO.ite ?_ ?_
   | refine LeO.bind ?_ (fun _ => ?_)
theorem laws_FnPool.mono : ∀ a0 k, LeO (laws_FnPool.f k a0) (laws_FnPool.f (k + 1) a0) := by
 intro a0 k
 obtain ⟨ih0, ih1, ih2, ih3⟩ := laws_FnPool.mono_l k
 unfold laws_FnPool.f
 repeat' first
   | (with_reducible exact ih0 _ _ _ _ _ _)
   | (with_reducible exact ih1 _ _ _ _ _ _ _ _ _)
   | (with_reducible exact ih2 _ _ _ _ _ _ _ _ _ _)
   | (with_reducible exact ih3 _ _ _ _ _ _ _)
   | (with_reducible exact impl_Chosen.mono _ _ _)
   | (with_reducible exact impl_Next.mono _ _)
   | (with_reducible exact impl_Offered.mono _ _ _ _)
   | (with_reducible exact impl_PoolOk.mono _ _)
   | (with_reducible exact laws_likeOffers.mono _ _ _)
   | (with_reducible exact laws_likeTexts.mono _ _ _)
   | (with_reducible exact spec_Chosen.mono _ _ _)
   | (with_reducible exact spec_DrawChosen.mono _ _)
   | (with_reducible exact spec_DrawNext.mono _ _)
   | (with_reducible exact spec_DrawOffered.mono _ _)
   | (with_reducible exact spec_Next.mono _ _)
   | (with_reducible exact spec_Offered.mono _ _ _ _)
   | (with_reducible exact spec_PoolOk.mono _ _)
   | (with_reducible exact LeO.refl _)
   | (with_reducible exact LeO.none _)
   | (with_reducible refine LeO.ite ?_ ?_)
   | (with_reducible refine LeO.bind ?_ (fun _ => ?_))
   | exact ih0 _ _ _ _ _ _
   | exact ih1 _ _ _ _ _ _ _ _ _
   | exact ih2 _ _ _ _ _ _ _ _ _ _
   | exact ih3 _ _ _ _ _ _ _
   | exact impl_Chosen.mono _ _ _
   | exact impl_Next.mono _ _
   | exact impl_Offered.mono _ _ _ _
   | exact impl_PoolOk.mono _ _
   | exact laws_likeOffers.mono _ _ _
   | exact laws_likeTexts.mono _ _ _
   | exact spec_Chosen.mono _ _ _
   | exact spec_DrawChosen.mono _ _
   | exact spec_DrawNext.mono _ _
   | exact spec_DrawOffered.mono _ _
   | exact spec_Next.mono _ _
   | exact spec_Offered.mono _ _ _ _
   | exact spec_PoolOk.mono _ _
   | exact LeO.none _
   | refine LeO.ite ?_ ?_
   | refine LeO.bind ?_ (fun _ => ?_)
set_option maxHeartbeats 8000000 in
set_option maxRecDepth 100000 in
theorem laws_FnPool.calls (k : Nat) (A0 : Option Addr) (c0 : Nat) (l0 : List Int) (r : Bool) (w : World) (hr0 : Kd.C (Kd.int .u8) w A0 l0.length l0) (hc0 : l0.length ≤ c0) (h : laws_FnPool.f k l0 = some r) :
  Calls Try.prog 11 #[.slice A0 l0.length c0] w fun e w' => e = .returned (.bool r) ∧ Below w.heap.size w w' := by
 have hu86 := Try.underlying86
 have HR0 := Aside0.mk hr0
 have HC0 := Aside0.mk hc0
 clear hr0 hc0
 have HB := Aside0.mk (Below.refl w.heap.size w)
 have H : ((laws_big.f l0).bind fun t436 => (if t436 = true then (some true) else ((spec_DrawOffered.f k l0).bind fun bt437 => ((impl_Offered.f k bt437.1 bt437.2.1 bt437.2.2).bind fun bt443 => ((spec_DrawNext.f k l0).bind fun t447 => ((impl_Next.f k t447).bind fun bt450 => ((spec_DrawChosen.f k l0).bind fun bt457 => ((impl_Chosen.f k bt457.1 bt457.2).bind fun t461 => ((spec_Offered.f k bt437.1 bt437.2.1 bt437.2.2).bind fun bt464 => (if (bt443.2 != bt464.2) = true then (none) else ((laws_likeOffers.f k bt443.1 bt464.1).bind fun t468 => (if t468 = true then ((impl_PoolOk.f k t447).bind fun t469 => ((spec_PoolOk.f k t447).bind fun t470 => (if (t469 != t470) = true then (none) else ((spec_Chosen.f k bt457.1 bt457.2).bind fun t471 => ((laws_likeTexts.f k t461 t471).bind fun t474 => (if t474 = true then ((spec_Next.f k t447).bind fun bt475 => (if (bt450.2.2.2 != bt475.2.2.2) = true then (none) else (if (!(bt450.1 == bt475.1) || (!(bt450.2.1.toList == bt475.2.1.toList))) = true then (none) else ((laws_likeOffers.f k bt450.2.2.1 bt475.2.2.1).bind fun t482 => (if t482 = true then (if bt443.2 = true then ((impl_PoolOk.f k bt443.1).bind fun t483 => (if t483 = true then (laws_FnPool.j0 k bt437.1 bt443.1 bt443.2 ((bt443.1.length : Int) != (wrap64 ((bt437.1.length : Int) + 1))) bt437.2.1 bt437.2.2) else (none))) else (laws_FnPool.j0 k bt437.1 bt443.1 bt443.2 false bt437.2.1 bt437.2.2)) else (none)))))) else (none))))))) else (none))))))))))))) = some r := h
 clear h
 replace H := Option.bind_eq_some_iff.mp H
 obtain ⟨t436, A20, H⟩ := H
 replace H : (if t436 = true then (some true) else ((spec_DrawOffered.f k l0).bind fun bt437 => ((impl_Offered.f k bt437.1 bt437.2.1 bt437.2.2).bind fun bt443 => ((spec_DrawNext.f k l0).bind fun t447 => ((impl_Next.f k t447).bind fun bt450 => ((spec_DrawChosen.f k l0).bind fun bt457 => ((impl_Chosen.f k bt457.1 bt457.2).bind fun t461 => ((spec_Offered.f k bt437.1 bt437.2.1 bt437.2.2).bind fun bt464 => (if (bt443.2 != bt464.2) = true then (none) else ((laws_likeOffers.f k bt443.1 bt464.1).bind fun t468 => (if t468 = true then ((impl_PoolOk.f k t447).bind fun t469 => ((spec_PoolOk.f k t447).bind fun t470 => (if (t469 != t470) = true then (none) else ((spec_Chosen.f k bt457.1 bt457.2).bind fun t471 => ((laws_likeTexts.f k t461 t471).bind fun t474 => (if t474 = true then ((spec_Next.f k t447).bind fun bt475 => (if (bt450.2.2.2 != bt475.2.2.2) = true then (none) else (if (!(bt450.1 == bt475.1) || (!(bt450.2.1.toList == bt475.2.1.toList))) = true then (none) else ((laws_likeOffers.f k bt450.2.2.1 bt475.2.2.1).bind fun t482 => (if t482 = true then (if bt443.2 = true then ((impl_PoolOk.f k bt443.1).bind fun t483 => (if t483 = true then (laws_FnPool.j0 k bt437.1 bt443.1 bt443.2 ((bt443.1.length : Int) != (wrap64 ((bt437.1.length : Int) + 1))) bt437.2.1 bt437.2.2) else (none))) else (laws_FnPool.j0 k bt437.1 bt443.1 bt443.2 false bt437.2.1 bt437.2.2)) else (none)))))) else (none))))))) else (none)))))))))))) = some r := H
 have A2 := Aside0.mk A20
 clear A20
 have HC3 := Aside0.mk H
 clear H
 go_enter Try.func11, Try.ntmps11
 go_upto_if 29 with (first | (go_at_call 54; (with_reducible refine (laws_big.calls _ _ l0 t436 _ ?side1 ?side2 A2.out).mono ?_); (case side1 => repeat (first | exact HR0.out | (with_reducible refine Kd.C_alloc ?_ _) | (with_reducible refine Kd.C_drewN ?_ _) | (with_reducible refine Kd.C_drew ?_))); (case side2 => exact HC0.out); rintro e w' ⟨rfl, ⟨nd, rfl⟩⟩; (try first | exact ⟨rfl, _, World.drewN_drewN _ _ _⟩ | exact ⟨rfl, _, Eq.trans (World.drewN_drewN _ _ _) (congrArg (World.drewN _) (Nat.add_assoc _ _ _))⟩)))
 (try simp only [Act.put, List.setIfInBounds_toArray, List.set_cons_zero, List.set_cons_succ])
 have H := HC3.out
 clear HC3
 by_cases c4 : t436 = true
 ·subst c4
  have H1 : (some true) = some r := by rw [if_pos rfl] at H; exact H
  clear H
  have H := H1
  clear H1
  obtain rfl := Option.some.inj H
  go_wp2
  repeat (go_quiet (fail); try go_wp2)
  go_ret
  exact ⟨by first | rfl | (simp [errW_none, errW_some] <;> rfl) | (simp [*, errW_none, errW_some] <;> rfl), by repeat (first | (with_reducible first | exact HB.out | apply below_alloc | apply pw_below_drewN | apply below_drew1) | exact HB.out)⟩
 ·replace c4 := Bool.eq_false_iff.mpr c4
  subst c4
  have H1 : ((spec_DrawOffered.f k l0).bind fun bt437 => ((impl_Offered.f k bt437.1 bt437.2.1 bt437.2.2).bind fun bt443 => ((spec_DrawNext.f k l0).bind fun t447 => ((impl_Next.f k t447).bind fun bt450 => ((spec_DrawChosen.f k l0).bind fun bt457 => ((impl_Chosen.f k bt457.1 bt457.2).bind fun t461 => ((spec_Offered.f k bt437.1 bt437.2.1 bt437.2.2).bind fun bt464 => (if (bt443.2 != bt464.2) = true then (none) else ((laws_likeOffers.f k bt443.1 bt464.1).bind fun t468 => (if t468 = true then ((impl_PoolOk.f k t447).bind fun t469 => ((spec_PoolOk.f k t447).bind fun t470 => (if (t469 != t470) = true then (none) else ((spec_Chosen.f k bt457.1 bt457.2).bind fun t471 => ((laws_likeTexts.f k t461 t471).bind fun t474 => (if t474 = true then ((spec_Next.f k t447).bind fun bt475 => (if (bt450.2.2.2 != bt475.2.2.2) = true then (none) else (if (!(bt450.1 == bt475.1) || (!(bt450.2.1.toList == bt475.2.1.toList))) = true then (none) else ((laws_likeOffers.f k bt450.2.2.1 bt475.2.2.1).bind fun t482 => (if t482 = true then (if bt443.2 = true then ((impl_PoolOk.f k bt443.1).bind fun t483 => (if t483 = true then (laws_FnPool.j0 k bt437.1 bt443.1 bt443.2 ((bt443.1.length : Int) != (wrap64 ((bt437.1.length : Int) + 1))) bt437.2.1 bt437.2.2) else (none))) else (laws_FnPool.j0 k bt437.1 bt443.1 bt443.2 false bt437.2.1 bt437.2.2)) else (none)))))) else (none))))))) else (none))))))))))) = some r := by rw [if_neg (show ¬ (false = true) by decide)] at H; exact H
  clear H
  have H := H1
  clear H1
  replace H := Option.bind_eq_some_iff.mp H
  obtain ⟨⟨t437, t440, t441⟩, A50, H⟩ := H
  replace H : ((impl_Offered.f k t437 t440 t441).bind fun bt443 => ((spec_DrawNext.f k l0).bind fun t447 => ((impl_Next.f k t447).bind fun bt450 => ((spec_DrawChosen.f k l0).bind fun bt457 => ((impl_Chosen.f k bt457.1 bt457.2).bind fun t461 => ((spec_Offered.f k t437 t440 t441).bind fun bt464 => (if (bt443.2 != bt464.2) = true then (none) else ((laws_likeOffers.f k bt443.1 bt464.1).bind fun t468 => (if t468 = true then ((impl_PoolOk.f k t447).bind fun t469 => ((spec_PoolOk.f k t447).bind fun t470 => (if (t469 != t470) = true then (none) else ((spec_Chosen.f k bt457.1 bt457.2).bind fun t471 => ((laws_likeTexts.f k t461 t471).bind fun t474 => (if t474 = true then ((spec_Next.f k t447).bind fun bt475 => (if (bt450.2.2.2 != bt475.2.2.2) = true then (none) else (if (!(bt450.1 == bt475.1) || (!(bt450.2.1.toList == bt475.2.1.toList))) = true then (none) else ((laws_likeOffers.f k bt450.2.2.1 bt475.2.2.1).bind fun t482 => (if t482 = true then (if bt443.2 = true then ((impl_PoolOk.f k bt443.1).bind fun t483 => (if t483 = true then (laws_FnPool.j0 k t437 bt443.1 bt443.2 ((bt443.1.length : Int) != (wrap64 ((t437.length : Int) + 1))) t440 t441) else (none))) else (laws_FnPool.j0 k t437 bt443.1 bt443.2 false t440 t441)) else (none)))))) else (none))))))) else (none)))))))))) = some r := H
  have A5 := Aside0.mk A50
  clear A50
  replace H := Option.bind_eq_some_iff.mp H
  obtain ⟨⟨t443, t446⟩, A60, H⟩ := H
  replace H : ((spec_DrawNext.f k l0).bind fun t447 => ((impl_Next.f k t447).bind fun bt450 => ((spec_DrawChosen.f k l0).bind fun bt457 => ((impl_Chosen.f k bt457.1 bt457.2).bind fun t461 => ((spec_Offered.f k t437 t440 t441).bind fun bt464 => (if (t446 != bt464.2) = true then (none) else ((laws_likeOffers.f k t443 bt464.1).bind fun t468 => (if t468 = true then ((impl_PoolOk.f k t447).bind fun t469 => ((spec_PoolOk.f k t447).bind fun t470 => (if (t469 != t470) = true then (none) else ((spec_Chosen.f k bt457.1 bt457.2).bind fun t471 => ((laws_likeTexts.f k t461 t471).bind fun t474 => (if t474 = true then ((spec_Next.f k t447).bind fun bt475 => (if (bt450.2.2.2 != bt475.2.2.2) = true then (none) else (if (!(bt450.1 == bt475.1) || (!(bt450.2.1.toList == bt475.2.1.toList))) = true then (none) else ((laws_likeOffers.f k bt450.2.2.1 bt475.2.2.1).bind fun t482 => (if t482 = true then (if t446 = true then ((impl_PoolOk.f k t443).bind fun t483 => (if t483 = true then (laws_FnPool.j0 k t437 t443 t446 ((t443.length : Int) != (wrap64 ((t437.length : Int) + 1))) t440 t441) else (none))) else (laws_FnPool.j0 k t437 t443 t446 false t440 t441)) else (none)))))) else (none))))))) else (none))))))))) = some r := H
  have A6 := Aside0.mk A60
  clear A60
  replace H := Option.bind_eq_some_iff.mp H
  obtain ⟨t447, A70, H⟩ := H
  replace H : ((impl_Next.f k t447).bind fun bt450 => ((spec_DrawChosen.f k l0).bind fun bt457 => ((impl_Chosen.f k bt457.1 bt457.2).bind fun t461 => ((spec_Offered.f k t437 t440 t441).bind fun bt464 => (if (t446 != bt464.2) = true then (none) else ((laws_likeOffers.f k t443 bt464.1).bind fun t468 => (if t468 = true then ((impl_PoolOk.f k t447).bind fun t469 => ((spec_PoolOk.f k t447).bind fun t470 => (if (t469 != t470) = true then (none) else ((spec_Chosen.f k bt457.1 bt457.2).bind fun t471 => ((laws_likeTexts.f k t461 t471).bind fun t474 => (if t474 = true then ((spec_Next.f k t447).bind fun bt475 => (if (bt450.2.2.2 != bt475.2.2.2) = true then (none) else (if (!(bt450.1 == bt475.1) || (!(bt450.2.1.toList == bt475.2.1.toList))) = true then (none) else ((laws_likeOffers.f k bt450.2.2.1 bt475.2.2.1).bind fun t482 => (if t482 = true then (if t446 = true then ((impl_PoolOk.f k t443).bind fun t483 => (if t483 = true then (laws_FnPool.j0 k t437 t443 t446 ((t443.length : Int) != (wrap64 ((t437.length : Int) + 1))) t440 t441) else (none))) else (laws_FnPool.j0 k t437 t443 t446 false t440 t441)) else (none)))))) else (none))))))) else (none)))))))) = some r := H
  have A7 := Aside0.mk A70
  clear A70
  replace H := Option.bind_eq_some_iff.mp H
  obtain ⟨⟨t450, t451, t452, t455⟩, A80, H⟩ := H
  replace H : ((spec_DrawChosen.f k l0).bind fun bt457 => ((impl_Chosen.f k bt457.1 bt457.2).bind fun t461 => ((spec_Offered.f k t437 t440 t441).bind fun bt464 => (if (t446 != bt464.2) = true then (none) else ((laws_likeOffers.f k t443 bt464.1).bind fun t468 => (if t468 = true then ((impl_PoolOk.f k t447).bind fun t469 => ((spec_PoolOk.f k t447).bind fun t470 => (if (t469 != t470) = true then (none) else ((spec_Chosen.f k bt457.1 bt457.2).bind fun t471 => ((laws_likeTexts.f k t461 t471).bind fun t474 => (if t474 = true then ((spec_Next.f k t447).bind fun bt475 => (if (t455 != bt475.2.2.2) = true then (none) else (if (!(t450 == bt475.1) || (!(t451.toList == bt475.2.1.toList))) = true then (none) else ((laws_likeOffers.f k t452 bt475.2.2.1).bind fun t482 => (if t482 = true then (if t446 = true then ((impl_PoolOk.f k t443).bind fun t483 => (if t483 = true then (laws_FnPool.j0 k t437 t443 t446 ((t443.length : Int) != (wrap64 ((t437.length : Int) + 1))) t440 t441) else (none))) else (laws_FnPool.j0 k t437 t443 t446 false t440 t441)) else (none)))))) else (none))))))) else (none))))))) = some r := H
  have A8 := Aside0.mk A80
  clear A80
  replace H := Option.bind_eq_some_iff.mp H
  obtain ⟨⟨t457, t458⟩, A90, H⟩ := H
  replace H : ((impl_Chosen.f k t457 t458).bind fun t461 => ((spec_Offered.f k t437 t440 t441).bind fun bt464 => (if (t446 != bt464.2) = true then (none) else ((laws_likeOffers.f k t443 bt464.1).bind fun t468 => (if t468 = true then ((impl_PoolOk.f k t447).bind fun t469 => ((spec_PoolOk.f k t447).bind fun t470 => (if (t469 != t470) = true then (none) else ((spec_Chosen.f k t457 t458).bind fun t471 => ((laws_likeTexts.f k t461 t471).bind fun t474 => (if t474 = true then ((spec_Next.f k t447).bind fun bt475 => (if (t455 != bt475.2.2.2) = true then (none) else (if (!(t450 == bt475.1) || (!(t451.toList == bt475.2.1.toList))) = true then (none) else ((laws_likeOffers.f k t452 bt475.2.2.1).bind fun t482 => (if t482 = true then (if t446 = true then ((impl_PoolOk.f k t443).bind fun t483 => (if t483 = true then (laws_FnPool.j0 k t437 t443 t446 ((t443.length : Int) != (wrap64 ((t437.length : Int) + 1))) t440 t441) else (none))) else (laws_FnPool.j0 k t437 t443 t446 false t440 t441)) else (none)))))) else (none))))))) else (none)))))) = some r := H
  have A9 := Aside0.mk A90
  clear A90
  replace H := Option.bind_eq_some_iff.mp H
  obtain ⟨t461, A100, H⟩ := H
  replace H : ((spec_Offered.f k t437 t440 t441).bind fun bt464 => (if (t446 != bt464.2) = true then (none) else ((laws_likeOffers.f k t443 bt464.1).bind fun t468 => (if t468 = true then ((impl_PoolOk.f k t447).bind fun t469 => ((spec_PoolOk.f k t447).bind fun t470 => (if (t469 != t470) = true then (none) else ((spec_Chosen.f k t457 t458).bind fun t471 => ((laws_likeTexts.f k t461 t471).bind fun t474 => (if t474 = true then ((spec_Next.f k t447).bind fun bt475 => (if (t455 != bt475.2.2.2) = true then (none) else (if (!(t450 == bt475.1) || (!(t451.toList == bt475.2.1.toList))) = true then (none) else ((laws_likeOffers.f k t452 bt475.2.2.1).bind fun t482 => (if t482 = true then (if t446 = true then ((impl_PoolOk.f k t443).bind fun t483 => (if t483 = true then (laws_FnPool.j0 k t437 t443 t446 ((t443.length : Int) != (wrap64 ((t437.length : Int) + 1))) t440 t441) else (none))) else (laws_FnPool.j0 k t437 t443 t446 false t440 t441)) else (none)))))) else (none))))))) else (none))))) = some r := H
  have A10 := Aside0.mk A100
  clear A100
  replace H := Option.bind_eq_some_iff.mp H
  obtain ⟨⟨t464, t467⟩, A110, H⟩ := H
  replace H : (if (t446 != t467) = true then (none) else ((laws_likeOffers.f k t443 t464).bind fun t468 => (if t468 = true then ((impl_PoolOk.f k t447).bind fun t469 => ((spec_PoolOk.f k t447).bind fun t470 => (if (t469 != t470) = true then (none) else ((spec_Chosen.f k t457 t458).bind fun t471 => ((laws_likeTexts.f k t461 t471).bind fun t474 => (if t474 = true then ((spec_Next.f k t447).bind fun bt475 => (if (t455 != bt475.2.2.2) = true then (none) else (if (!(t450 == bt475.1) || (!(t451.toList == bt475.2.1.toList))) = true then (none) else ((laws_likeOffers.f k t452 bt475.2.2.1).bind fun t482 => (if t482 = true then (if t446 = true then ((impl_PoolOk.f k t443).bind fun t483 => (if t483 = true then (laws_FnPool.j0 k t437 t443 t446 ((t443.length : Int) != (wrap64 ((t437.length : Int) + 1))) t440 t441) else (none))) else (laws_FnPool.j0 k t437 t443 t446 false t440 t441)) else (none)))))) else (none))))))) else (none)))) = some r := H
  have A11 := Aside0.mk A110
  clear A110
  by_cases c12 : (t446 != t467) = true
  ·rw [if_pos c12] at H
   exact absurd H (by simp)
  ·rw [if_neg c12] at H
   have c12b0 : (t446 != t467) = false := by simpa using c12
   (try (have c12b1 : decide (t446 = t467) = true := by simpa using c12))
   (try (have c12b2 : (t446 == t467) = true := by simpa using c12))
   clear c12
   (first | rw [c12b0] | (simp only [i64_w, i32_w]; rw [c12b0]) | skip)
   replace H := Option.bind_eq_some_iff.mp H
   obtain ⟨t468, A130, H⟩ := H
   replace H : (if t468 = true then ((impl_PoolOk.f k t447).bind fun t469 => ((spec_PoolOk.f k t447).bind fun t470 => (if (t469 != t470) = true then (none) else ((spec_Chosen.f k t457 t458).bind fun t471 => ((laws_likeTexts.f k t461 t471).bind fun t474 => (if t474 = true then ((spec_Next.f k t447).bind fun bt475 => (if (t455 != bt475.2.2.2) = true then (none) else (if (!(t450 == bt475.1) || (!(t451.toList == bt475.2.1.toList))) = true then (none) else ((laws_likeOffers.f k t452 bt475.2.2.1).bind fun t482 => (if t482 = true then (if t446 = true then ((impl_PoolOk.f k t443).bind fun t483 => (if t483 = true then (laws_FnPool.j0 k t437 t443 t446 ((t443.length : Int) != (wrap64 ((t437.length : Int) + 1))) t440 t441) else (none))) else (laws_FnPool.j0 k t437 t443 t446 false t440 t441)) else (none)))))) else (none))))))) else (none)) = some r := H
   have A13 := Aside0.mk A130
   clear A130
   by_cases c14 : t468 = true
   ·subst c14
    have H1 : ((impl_PoolOk.f k t447).bind fun t469 => ((spec_PoolOk.f k t447).bind fun t470 => (if (t469 != t470) = true then (none) else ((spec_Chosen.f k t457 t458).bind fun t471 => ((laws_likeTexts.f k t461 t471).bind fun t474 => (if t474 = true then ((spec_Next.f k t447).bind fun bt475 => (if (t455 != bt475.2.2.2) = true then (none) else (if (!(t450 == bt475.1) || (!(t451.toList == bt475.2.1.toList))) = true then (none) else ((laws_likeOffers.f k t452 bt475.2.2.1).bind fun t482 => (if t482 = true then (if t446 = true then ((impl_PoolOk.f k t443).bind fun t483 => (if t483 = true then (laws_FnPool.j0 k t437 t443 t446 ((t443.length : Int) != (wrap64 ((t437.length : Int) + 1))) t440 t441) else (none))) else (laws_FnPool.j0 k t437 t443 t446 false t440 t441)) else (none)))))) else (none))))))) = some r := by rw [if_pos rfl] at H; exact H
    clear H
    have H := H1
    clear H1
    replace H := Option.bind_eq_some_iff.mp H
    obtain ⟨t469, A150, H⟩ := H
    replace H : ((spec_PoolOk.f k t447).bind fun t470 => (if (t469 != t470) = true then (none) else ((spec_Chosen.f k t457 t458).bind fun t471 => ((laws_likeTexts.f k t461 t471).bind fun t474 => (if t474 = true then ((spec_Next.f k t447).bind fun bt475 => (if (t455 != bt475.2.2.2) = true then (none) else (if (!(t450 == bt475.1) || (!(t451.toList == bt475.2.1.toList))) = true then (none) else ((laws_likeOffers.f k t452 bt475.2.2.1).bind fun t482 => (if t482 = true then (if t446 = true then ((impl_PoolOk.f k t443).bind fun t483 => (if t483 = true then (laws_FnPool.j0 k t437 t443 t446 ((t443.length : Int) != (wrap64 ((t437.length : Int) + 1))) t440 t441) else (none))) else (laws_FnPool.j0 k t437 t443 t446 false t440 t441)) else (none)))))) else (none)))))) = some r := H
    have A15 := Aside0.mk A150
    clear A150
    replace H := Option.bind_eq_some_iff.mp H
    obtain ⟨t470, A160, H⟩ := H
    replace H : (if (t469 != t470) = true then (none) else ((spec_Chosen.f k t457 t458).bind fun t471 => ((laws_likeTexts.f k t461 t471).bind fun t474 => (if t474 = true then ((spec_Next.f k t447).bind fun bt475 => (if (t455 != bt475.2.2.2) = true then (none) else (if (!(t450 == bt475.1) || (!(t451.toList == bt475.2.1.toList))) = true then (none) else ((laws_likeOffers.f k t452 bt475.2.2.1).bind fun t482 => (if t482 = true then (if t446 = true then ((impl_PoolOk.f k t443).bind fun t483 => (if t483 = true then (laws_FnPool.j0 k t437 t443 t446 ((t443.length : Int) != (wrap64 ((t437.length : Int) + 1))) t440 t441) else (none))) else (laws_FnPool.j0 k t437 t443 t446 false t440 t441)) else (none)))))) else (none))))) = some r := H
    have A16 := Aside0.mk A160
    clear A160
    by_cases c17 : (t469 != t470) = true
    ·rw [if_pos c17] at H
     exact absurd H (by simp)
    ·rw [if_neg c17] at H
     have c17b0 : (t469 != t470) = false := by simpa using c17
     (try (have c17b1 : decide (t469 = t470) = true := by simpa using c17))
     (try (have c17b2 : (t469 == t470) = true := by simpa using c17))
     clear c17
     replace H := Option.bind_eq_some_iff.mp H
     obtain ⟨t471, A180, H⟩ := H
     replace H : ((laws_likeTexts.f k t461 t471).bind fun t474 => (if t474 = true then ((spec_Next.f k t447).bind fun bt475 => (if (t455 != bt475.2.2.2) = true then (none) else (if (!(t450 == bt475.1) || (!(t451.toList == bt475.2.1.toList))) = true then (none) else ((laws_likeOffers.f k t452 bt475.2.2.1).bind fun t482 => (if t482 = true then (if t446 = true then ((impl_PoolOk.f k t443).bind fun t483 => (if t483 = true then (laws_FnPool.j0 k t437 t443 t446 ((t443.length : Int) != (wrap64 ((t437.length : Int) + 1))) t440 t441) else (none))) else (laws_FnPool.j0 k t437 t443 t446 false t440 t441)) else (none)))))) else (none))) = some r := H
     have A18 := Aside0.mk A180
     clear A180
     replace H := Option.bind_eq_some_iff.mp H
     obtain ⟨t474, A190, H⟩ := H
     replace H : (if t474 = true then ((spec_Next.f k t447).bind fun bt475 => (if (t455 != bt475.2.2.2) = true then (none) else (if (!(t450 == bt475.1) || (!(t451.toList == bt475.2.1.toList))) = true then (none) else ((laws_likeOffers.f k t452 bt475.2.2.1).bind fun t482 => (if t482 = true then (if t446 = true then ((impl_PoolOk.f k t443).bind fun t483 => (if t483 = true then (laws_FnPool.j0 k t437 t443 t446 ((t443.length : Int) != (wrap64 ((t437.length : Int) + 1))) t440 t441) else (none))) else (laws_FnPool.j0 k t437 t443 t446 false t440 t441)) else (none)))))) else (none)) = some r := H
     have A19 := Aside0.mk A190
     clear A190
     by_cases c20 : t474 = true
     ·subst c20
      have H1 : ((spec_Next.f k t447).bind fun bt475 => (if (t455 != bt475.2.2.2) = true then (none) else (if (!(t450 == bt475.1) || (!(t451.toList == bt475.2.1.toList))) = true then (none) else ((laws_likeOffers.f k t452 bt475.2.2.1).bind fun t482 => (if t482 = true then (if t446 = true then ((impl_PoolOk.f k t443).bind fun t483 => (if t483 = true then (laws_FnPool.j0 k t437 t443 t446 ((t443.length : Int) != (wrap64 ((t437.length : Int) + 1))) t440 t441) else (none))) else (laws_FnPool.j0 k t437 t443 t446 false t440 t441)) else (none)))))) = some r := by rw [if_pos rfl] at H; exact H
      clear H
      have H := H1
      clear H1
      replace H := Option.bind_eq_some_iff.mp H
      obtain ⟨⟨t475, t476, t477, t480⟩, A210, H⟩ := H
      replace H : (if (t455 != t480) = true then (none) else (if (!(t450 == t475) || (!(t451.toList == t476.toList))) = true then (none) else ((laws_likeOffers.f k t452 t477).bind fun t482 => (if t482 = true then (if t446 = true then ((impl_PoolOk.f k t443).bind fun t483 => (if t483 = true then (laws_FnPool.j0 k t437 t443 t446 ((t443.length : Int) != (wrap64 ((t437.length : Int) + 1))) t440 t441) else (none))) else (laws_FnPool.j0 k t437 t443 t446 false t440 t441)) else (none))))) = some r := H
      have A21 := Aside0.mk A210
      clear A210
      by_cases c22 : (t455 != t480) = true
      ·rw [if_pos c22] at H
       exact absurd H (by simp)
      ·rw [if_neg c22] at H
       have c22b0 : (t455 != t480) = false := by simpa using c22
       (try (have c22b1 : decide (t455 = t480) = true := by simpa using c22))
       (try (have c22b2 : (t455 == t480) = true := by simpa using c22))
       clear c22
       by_cases c23 : (!(t450 == t475) || (!(t451.toList == t476.toList))) = true
       ·rw [if_pos c23] at H
        exact absurd H (by simp)
       ·rw [if_neg c23] at H
        have c23b0 : (!(t450 == t475) || (!(t451.toList == t476.toList))) = false := by simpa using c23
        clear c23
        replace H := Option.bind_eq_some_iff.mp H
        obtain ⟨t482, A240, H⟩ := H
        replace H : (if t482 = true then (if t446 = true then ((impl_PoolOk.f k t443).bind fun t483 => (if t483 = true then (laws_FnPool.j0 k t437 t443 t446 ((t443.length : Int) != (wrap64 ((t437.length : Int) + 1))) t440 t441) else (none))) else (laws_FnPool.j0 k t437 t443 t446 false t440 t441)) else (none)) = some r := H
        have A24 := Aside0.mk A240
        clear A240
        by_cases c25 : t482 = true
        ·subst c25
         have H1 : (if t446 = true then ((impl_PoolOk.f k t443).bind fun t483 => (if t483 = true then (laws_FnPool.j0 k t437 t443 t446 ((t443.length : Int) != (wrap64 ((t437.length : Int) + 1))) t440 t441) else (none))) else (laws_FnPool.j0 k t437 t443 t446 false t440 t441)) = some r := by rw [if_pos rfl] at H; exact H
         clear H
         have H := H1
         clear H1
         have HC26 := Aside0.mk H
         clear H
         go_upto_region 15 with (first | (go_at_call 55; (with_reducible refine (spec_DrawOffered.calls k _ _ l0 t437 t440 t441 _ ?side1 ?side2 A5.out).mono ?_); (case side1 => repeat (first | exact (Kd.C_below HR0.out HB.out) | (with_reducible refine Kd.C_alloc ?_ _) | (with_reducible refine Kd.C_drewN ?_ _) | (with_reducible refine Kd.C_drew ?_))); (case side2 => exact HC0.out); rintro e w27 ⟨v438, rfl, ho0, hb⟩; have n0_ := Aside0.mk (Kd.R_lower ho0 (below_size (by repeat (first | (with_reducible first | exact HB.out | apply below_alloc | apply pw_below_drewN | apply below_drew1) | exact HB.out)))); have n1_ := Aside0.mk (below_step (by repeat (first | (with_reducible first | exact HB.out | apply below_alloc | apply pw_below_drewN | apply below_drew1) | exact HB.out)) hb); clear HB; have HO439 := n0_; have HB := n1_; clear n0_ n1_; (try clear hb); (try clear hb2); (try clear hk); (try clear hi); (try clear ho0)) | ((with_reducible refine gate_dst (N := 4) rfl ?_); (try (refine gate_guard (by rfl) ?_; dsimp only)); refine box_event ?hg (N := 4) ?hd (cs := #[.int .i64 0, .string (⟨#[]⟩ : ByteArray)]) (t := 86) ?hr ?_; (case hd => rfl); (case hg => rfl); (case hr => first | (go_simp; done) | (go_simp; rfl)); intro gb442 hg w28 hbox hb; have n0_ := Aside0.mk (Kd.R_below (Kd.R_elderB (by (with_reducible repeat (first | apply Kd.R_alloc | apply Kd.R_drewN | apply Kd.R_drew)); exact HO439.out) gb442 (Nat.le_of_eq hg.symm)) hb); have n1_ := Aside0.mk (below_step (by repeat (first | (with_reducible first | exact HB.out | apply below_alloc | apply pw_below_drewN | apply below_drew1) | exact HB.out)) hb); have n2_ := Aside0.mk (hbox); have n3_ := Aside0.mk ((by rw [hg]; exact (below_size (by repeat (first | (with_reducible first | exact HB.out | apply below_alloc | apply pw_below_drewN | apply below_drew1) | exact HB.out))) : w.heap.size ≤ gb442)); have n4_ := Aside0.mk ((by rw [hg]; exact (below_size (by repeat (first | (with_reducible first | exact HB.out | apply below_alloc | apply pw_below_drewN | apply below_drew1) | exact HB.out))) : w.heap.size ≤ gb442)); clear HO439; clear HB; have HO439 := n0_; have HB := n1_; have BK442 := n2_; have GW442 := n3_; have GE442 := n4_; clear n0_ n1_ n2_ n3_ n4_; clear hb hbox hg; have hcz29_0 : w28.cell? ⟨gb442, 0, none⟩ = some (.int .i64 0) := (blk_cell BK442.out 0).trans rfl; have hcz29_1 : w28.cell? ⟨gb442, 1, none⟩ = some (.string (⟨#[]⟩ : ByteArray)) := (blk_cell BK442.out 1).trans rfl; have hfz29_0 := blk_frozen BK442.out 0; have hfz29_1 := blk_frozen BK442.out 1; obtain ⟨Ao30, co30, eo30⟩ := Kd.R_slice HO439.out; subst eo30) | (go_at_call 56; (with_reducible refine (impl_Offered.calls k _ _ t437 t440 t441 t443 t446 _ ?side1 ?side2 A6.out).mono ?_); (case side1 => refine (Kd.R_reads' (e := 86) (base := w.heap.size) (ok := fun k_ => (True ∧ k_ ≠ gb442)) (n := t437.length) (c := co30) ?_).2.2; exact (by (with_reducible repeat (first | apply Kd.R_alloc | apply Kd.R_drewN | apply Kd.R_drew)); exact (Kd.R_mono (Kd.R_far (p := ⟨gb442, 1, none⟩) (Kd.R_far (p := ⟨gb442, 0, none⟩) (Kd.R_mono HO439.out (fun k_ hk => (⟨hk, hk.2⟩ : _ ∧ k_ ≠ gb442))) (fun _ hk => hk.2) (.int .i64 t440)) (fun _ hk => hk.2) (.string t441)) (fun _ h_ => h_.1)))); (case side2 => exact (Kd.R_reads' HO439.out).2.1); rintro e w31 ⟨v444, rfl, ho0, hb⟩; have n0_ := Aside0.mk (Kd.R_elder' (by (with_reducible repeat (first | apply Kd.R_alloc | apply Kd.R_drewN | apply Kd.R_drew)); exact (Kd.R_mono (Kd.R_far (p := ⟨gb442, 1, none⟩) (Kd.R_far (p := ⟨gb442, 0, none⟩) (Kd.R_mono HO439.out (fun k_ hk => (⟨hk, hk.2⟩ : _ ∧ k_ ≠ gb442))) (fun _ hk => hk.2) (.int .i64 t440)) (fun _ hk => hk.2) (.string t441)) (fun _ h_ => h_.1))) (Kd.R_base ho0) hb); have n1_ := Aside0.mk (Kd.R_lower (Kd.R_newB (Kd.R_new' ho0 (Kd.R_lt (by (with_reducible repeat (first | apply Kd.R_alloc | apply Kd.R_drewN | apply Kd.R_drew)); exact (Kd.R_mono (Kd.R_far (p := ⟨gb442, 1, none⟩) (Kd.R_far (p := ⟨gb442, 0, none⟩) (Kd.R_mono HO439.out (fun k_ hk => (⟨hk, hk.2⟩ : _ ∧ k_ ≠ gb442))) (fun _ hk => hk.2) (.int .i64 t440)) (fun _ hk => hk.2) (.string t441)) (fun _ h_ => h_.1))))) (g := gb442) (o := .cells #[.int .i64 t440, .string t441] 86 (0, 0)) (by (with_reducible repeat (first | refine blk_drewN ?_ _ | refine blk_drew ?_ | refine blk_alloc ?_ _)); refine blk_put (cs := #[.int .i64 t440, .string (⟨#[]⟩ : ByteArray)]) ?_ 1 _ rfl; (with_reducible repeat (first | refine blk_drewN ?_ _ | refine blk_drew ?_ | refine blk_alloc ?_ _)); refine blk_put (cs := #[.int .i64 0, .string (⟨#[]⟩ : ByteArray)]) ?_ 0 _ rfl; (with_reducible repeat (first | refine blk_drewN ?_ _ | refine blk_drew ?_ | refine blk_alloc ?_ _)); exact BK442.out)) (below_size (by repeat (first | (with_reducible first | exact HB.out | apply below_alloc | apply pw_below_drewN | apply below_drew1 | refine below_set ?_ GE442.out) | exact HB.out)))); have n2_ := Aside0.mk (blk_below (g := gb442) (o := .cells #[.int .i64 t440, .string t441] 86 (0, 0)) (by (with_reducible repeat (first | refine blk_drewN ?_ _ | refine blk_drew ?_ | refine blk_alloc ?_ _)); refine blk_put (cs := #[.int .i64 t440, .string (⟨#[]⟩ : ByteArray)]) ?_ 1 _ rfl; (with_reducible repeat (first | refine blk_drewN ?_ _ | refine blk_drew ?_ | refine blk_alloc ?_ _)); refine blk_put (cs := #[.int .i64 0, .string (⟨#[]⟩ : ByteArray)]) ?_ 0 _ rfl; (with_reducible repeat (first | refine blk_drewN ?_ _ | refine blk_drew ?_ | refine blk_alloc ?_ _)); exact BK442.out) hb); have n3_ := Aside0.mk (below_step (by repeat (first | (with_reducible first | exact HB.out | apply below_alloc | apply pw_below_drewN | apply below_drew1 | refine below_set ?_ GE442.out) | exact HB.out)) hb); clear HO439; clear BK442; clear HB; have HO439 := n0_; have HO445 := n1_; have BK442 := n2_; have HB := n3_; clear n0_ n1_ n2_ n3_; (try clear hb); (try clear hb2); (try clear hk); (try clear hi); (try clear ho0)) | (go_at_call 57; (with_reducible refine (spec_DrawNext.calls k _ _ l0 t447 _ ?side1 ?side2 A7.out).mono ?_); (case side1 => repeat (first | exact (Kd.C_below HR0.out HB.out) | (with_reducible refine Kd.C_alloc ?_ _) | (with_reducible refine Kd.C_drewN ?_ _) | (with_reducible refine Kd.C_drew ?_))); (case side2 => exact HC0.out); rintro e w32 ⟨v448, rfl, ho0, hb⟩; have n0_ := Aside0.mk (Kd.R_elder' (by (with_reducible repeat (first | apply Kd.R_alloc | apply Kd.R_drewN | apply Kd.R_drew)); exact HO439.out) (Kd.R_base ho0) hb); have n1_ := Aside0.mk (Kd.R_elder' (by (with_reducible repeat (first | apply Kd.R_alloc | apply Kd.R_drewN | apply Kd.R_drew)); exact HO445.out) (Kd.R_base ho0) hb); have n2_ := Aside0.mk (Kd.R_lower (Kd.R_newB (Kd.R_new' (Kd.R_new' ho0 (Kd.R_lt (by (with_reducible repeat (first | apply Kd.R_alloc | apply Kd.R_drewN | apply Kd.R_drew)); exact HO439.out))) (Kd.R_lt (by (with_reducible repeat (first | apply Kd.R_alloc | apply Kd.R_drewN | apply Kd.R_drew)); exact HO445.out))) (g := gb442) (o := .cells #[.int .i64 t440, .string t441] 86 (0, 0)) (by (with_reducible repeat (first | refine blk_drewN ?_ _ | refine blk_drew ?_ | refine blk_alloc ?_ _)); exact BK442.out)) (below_size (by repeat (first | (with_reducible first | exact HB.out | apply below_alloc | apply pw_below_drewN | apply below_drew1 | refine below_set ?_ GE442.out) | exact HB.out)))); have n3_ := Aside0.mk (blk_below (g := gb442) (o := .cells #[.int .i64 t440, .string t441] 86 (0, 0)) (by (with_reducible repeat (first | refine blk_drewN ?_ _ | refine blk_drew ?_ | refine blk_alloc ?_ _)); exact BK442.out) hb); have n4_ := Aside0.mk (below_step (by repeat (first | (with_reducible first | exact HB.out | apply below_alloc | apply pw_below_drewN | apply below_drew1 | refine below_set ?_ GE442.out) | exact HB.out)) hb); clear HO439; clear HO445; clear BK442; clear HB; have HO439 := n0_; have HO445 := n1_; have HO449 := n2_; have BK442 := n3_; have HB := n4_; clear n0_ n1_ n2_ n3_ n4_; (try clear hb); (try clear hb2); (try clear hk); (try clear hi); (try clear ho0); obtain ⟨Ao33, co33, eo33⟩ := Kd.R_slice HO449.out; subst eo33) | (go_at_call 58; (with_reducible refine (impl_Next.calls k _ _ t447 t450 t451 t452 t455 _ ?side1 ?side2 A8.out).mono ?_); (case side1 => repeat (first | exact (Kd.R_reads' HO449.out).2.2 | (with_reducible refine Kd.C_alloc ?_ _) | (with_reducible refine Kd.C_drewN ?_ _) | (with_reducible refine Kd.C_drew ?_))); (case side2 => exact (Kd.R_reads' HO449.out).2.1); rintro e w34 ⟨v453, rfl, ho0, hb⟩; have n0_ := Aside0.mk (Kd.R_elder' (by (with_reducible repeat (first | apply Kd.R_alloc | apply Kd.R_drewN | apply Kd.R_drew)); exact HO439.out) (Kd.R_base ho0) hb); have n1_ := Aside0.mk (Kd.R_elder' (by (with_reducible repeat (first | apply Kd.R_alloc | apply Kd.R_drewN | apply Kd.R_drew)); exact HO445.out) (Kd.R_base ho0) hb); have n2_ := Aside0.mk (Kd.R_elder' (by (with_reducible repeat (first | apply Kd.R_alloc | apply Kd.R_drewN | apply Kd.R_drew)); exact HO449.out) (Kd.R_base ho0) hb); have n3_ := Aside0.mk (Kd.R_lower (Kd.R_newB (Kd.R_new' (Kd.R_new' (Kd.R_new' ho0 (Kd.R_lt (by (with_reducible repeat (first | apply Kd.R_alloc | apply Kd.R_drewN | apply Kd.R_drew)); exact HO439.out))) (Kd.R_lt (by (with_reducible repeat (first | apply Kd.R_alloc | apply Kd.R_drewN | apply Kd.R_drew)); exact HO445.out))) (Kd.R_lt (by (with_reducible repeat (first | apply Kd.R_alloc | apply Kd.R_drewN | apply Kd.R_drew)); exact HO449.out))) (g := gb442) (o := .cells #[.int .i64 t440, .string t441] 86 (0, 0)) (by (with_reducible repeat (first | refine blk_drewN ?_ _ | refine blk_drew ?_ | refine blk_alloc ?_ _)); exact BK442.out)) (below_size (by repeat (first | (with_reducible first | exact HB.out | apply below_alloc | apply pw_below_drewN | apply below_drew1 | refine below_set ?_ GE442.out) | exact HB.out)))); have n4_ := Aside0.mk (blk_below (g := gb442) (o := .cells #[.int .i64 t440, .string t441] 86 (0, 0)) (by (with_reducible repeat (first | refine blk_drewN ?_ _ | refine blk_drew ?_ | refine blk_alloc ?_ _)); exact BK442.out) hb); have n5_ := Aside0.mk (below_step (by repeat (first | (with_reducible first | exact HB.out | apply below_alloc | apply pw_below_drewN | apply below_drew1 | refine below_set ?_ GE442.out) | exact HB.out)) hb); clear HO439; clear HO445; clear HO449; clear BK442; clear HB; have HO439 := n0_; have HO445 := n1_; have HO449 := n2_; have HO454 := n3_; have BK442 := n4_; have HB := n5_; clear n0_ n1_ n2_ n3_ n4_ n5_; (try clear hb); (try clear hb2); (try clear hk); (try clear hi); (try clear ho0)) | ((with_reducible refine gate_dst (N := 8) rfl ?_); (try (refine gate_guard (by rfl) ?_; dsimp only)); refine box_event ?hg (N := 8) ?hd (cs := #[.int .i64 0, .string (⟨#[]⟩ : ByteArray)]) (t := 86) ?hr ?_; (case hd => rfl); (case hg => rfl); (case hr => first | (go_simp; done) | (go_simp; rfl)); intro gb456 hg w35 hbox hb; have n0_ := Aside0.mk (Kd.R_below (Kd.R_elderB (by (with_reducible repeat (first | apply Kd.R_alloc | apply Kd.R_drewN | apply Kd.R_drew)); exact HO439.out) gb456 (Nat.le_of_eq hg.symm)) hb); have n1_ := Aside0.mk (Kd.R_below (Kd.R_elderB (by (with_reducible repeat (first | apply Kd.R_alloc | apply Kd.R_drewN | apply Kd.R_drew)); exact HO445.out) gb456 (Nat.le_of_eq hg.symm)) hb); have n2_ := Aside0.mk (Kd.R_below (Kd.R_elderB (by (with_reducible repeat (first | apply Kd.R_alloc | apply Kd.R_drewN | apply Kd.R_drew)); exact HO449.out) gb456 (Nat.le_of_eq hg.symm)) hb); have n3_ := Aside0.mk (Kd.R_below (Kd.R_elderB (by (with_reducible repeat (first | apply Kd.R_alloc | apply Kd.R_drewN | apply Kd.R_drew)); exact HO454.out) gb456 (Nat.le_of_eq hg.symm)) hb); have n4_ := Aside0.mk (blk_below (g := gb442) (o := .cells #[.int .i64 t440, .string t441] 86 (0, 0)) (by (with_reducible repeat (first | refine blk_drewN ?_ _ | refine blk_drew ?_ | refine blk_alloc ?_ _)); exact BK442.out) hb); have n5_ := Aside0.mk (below_step (by repeat (first | (with_reducible first | exact HB.out | apply below_alloc | apply pw_below_drewN | apply below_drew1 | refine below_set ?_ GE442.out) | exact HB.out)) hb); have n6_ := Aside0.mk (hbox); have n7_ := Aside0.mk ((by rw [hg]; exact (below_size (by repeat (first | (with_reducible first | exact HB.out | apply below_alloc | apply pw_below_drewN | apply below_drew1 | refine below_set ?_ GE442.out) | exact HB.out))) : w.heap.size ≤ gb456)); have n8_ := Aside0.mk ((by rw [hg]; exact (below_size (by repeat (first | (with_reducible first | exact HB.out | apply below_alloc | apply pw_below_drewN | apply below_drew1 | refine below_set ?_ GE442.out) | exact HB.out))) : w.heap.size ≤ gb456)); have n9_ := Aside0.mk ((by rw [hg]; exact Nat.ne_of_lt (blk_lt (g := gb442) (o := .cells #[.int .i64 t440, .string t441] 86 (0, 0)) (by (with_reducible repeat (first | refine blk_drewN ?_ _ | refine blk_drew ?_ | refine blk_alloc ?_ _)); exact BK442.out)) : gb442 ≠ gb456)); have n10_ := Aside0.mk ((by rw [hg]; exact Nat.ne_of_gt (blk_lt (g := gb442) (o := .cells #[.int .i64 t440, .string t441] 86 (0, 0)) (by (with_reducible repeat (first | refine blk_drewN ?_ _ | refine blk_drew ?_ | refine blk_alloc ?_ _)); exact BK442.out)) : gb456 ≠ gb442)); clear HO439; clear HO445; clear HO449; clear HO454; clear BK442; clear HB; have HO439 := n0_; have HO445 := n1_; have HO449 := n2_; have HO454 := n3_; have BK442 := n4_; have HB := n5_; have BK456 := n6_; have GW456 := n7_; have GE456 := n8_; have NB442_456 := n9_; have NB456_442 := n10_; clear n0_ n1_ n2_ n3_ n4_ n5_ n6_ n7_ n8_ n9_ n10_; clear hb hbox hg; have hnb36 := NB456_442.out; have hnc36 := NB442_456.out; have hcz37_0 : w35.cell? ⟨gb456, 0, none⟩ = some (.int .i64 0) := (blk_cell BK456.out 0).trans rfl; have hcz37_1 : w35.cell? ⟨gb456, 1, none⟩ = some (.string (⟨#[]⟩ : ByteArray)) := (blk_cell BK456.out 1).trans rfl; have hfz37_0 := blk_frozen BK456.out 0; have hfz37_1 := blk_frozen BK456.out 1) | (go_at_call 59; (with_reducible refine (spec_DrawChosen.calls k _ _ l0 t457 t458 _ ?side1 ?side2 A9.out).mono ?_); (case side1 => exact Kd.C_below HR0.out (by repeat (first | (with_reducible first | exact HB.out | apply below_alloc | apply pw_below_drewN | apply below_drew1 | refine below_set ?_ GE442.out | refine below_set ?_ GE456.out) | exact HB.out))); (case side2 => exact HC0.out); rintro e w38 ⟨v459, rfl, ho0, hb⟩; have n0_ := Aside0.mk (Kd.R_elder' (by (with_reducible repeat (first | apply Kd.R_alloc | apply Kd.R_drewN | apply Kd.R_drew)); exact (Kd.R_mono (Kd.R_far (p := ⟨gb456, 1, none⟩) (Kd.R_far (p := ⟨gb456, 0, none⟩) (Kd.R_mono HO439.out (fun k_ hk => (⟨hk, hk.2⟩ : _ ∧ k_ ≠ gb456))) (fun _ hk => hk.2) (.int .i64 t450)) (fun _ hk => hk.2) (.string t451)) (fun _ h_ => h_.1))) (Kd.R_base ho0) hb); have n1_ := Aside0.mk (Kd.R_elder' (by (with_reducible repeat (first | apply Kd.R_alloc | apply Kd.R_drewN | apply Kd.R_drew)); exact (Kd.R_mono (Kd.R_far (p := ⟨gb456, 1, none⟩) (Kd.R_far (p := ⟨gb456, 0, none⟩) (Kd.R_mono HO445.out (fun k_ hk => (⟨hk, hk.2⟩ : _ ∧ k_ ≠ gb456))) (fun _ hk => hk.2) (.int .i64 t450)) (fun _ hk => hk.2) (.string t451)) (fun _ h_ => h_.1))) (Kd.R_base ho0) hb); have n2_ := Aside0.mk (Kd.R_elder' (by (with_reducible repeat (first | apply Kd.R_alloc | apply Kd.R_drewN | apply Kd.R_drew)); exact (Kd.R_mono (Kd.R_far (p := ⟨gb456, 1, none⟩) (Kd.R_far (p := ⟨gb456, 0, none⟩) (Kd.R_mono HO449.out (fun k_ hk => (⟨hk, hk.2⟩ : _ ∧ k_ ≠ gb456))) (fun _ hk => hk.2) (.int .i64 t450)) (fun _ hk => hk.2) (.string t451)) (fun _ h_ => h_.1))) (Kd.R_base ho0) hb); have n3_ := Aside0.mk (Kd.R_elder' (by (with_reducible repeat (first | apply Kd.R_alloc | apply Kd.R_drewN | apply Kd.R_drew)); exact (Kd.R_mono (Kd.R_far (p := ⟨gb456, 1, none⟩) (Kd.R_far (p := ⟨gb456, 0, none⟩) (Kd.R_mono HO454.out (fun k_ hk => (⟨hk, hk.2⟩ : _ ∧ k_ ≠ gb456))) (fun _ hk => hk.2) (.int .i64 t450)) (fun _ hk => hk.2) (.string t451)) (fun _ h_ => h_.1))) (Kd.R_base ho0) hb); have n4_ := Aside0.mk (Kd.R_lower (Kd.R_newB (Kd.R_newB (Kd.R_new' (Kd.R_new' (Kd.R_new' (Kd.R_new' ho0 (Kd.R_lt (by (with_reducible repeat (first | apply Kd.R_alloc | apply Kd.R_drewN | apply Kd.R_drew)); exact (Kd.R_mono (Kd.R_far (p := ⟨gb456, 1, none⟩) (Kd.R_far (p := ⟨gb456, 0, none⟩) (Kd.R_mono HO439.out (fun k_ hk => (⟨hk, hk.2⟩ : _ ∧ k_ ≠ gb456))) (fun _ hk => hk.2) (.int .i64 t450)) (fun _ hk => hk.2) (.string t451)) (fun _ h_ => h_.1))))) (Kd.R_lt (by (with_reducible repeat (first | apply Kd.R_alloc | apply Kd.R_drewN | apply Kd.R_drew)); exact (Kd.R_mono (Kd.R_far (p := ⟨gb456, 1, none⟩) (Kd.R_far (p := ⟨gb456, 0, none⟩) (Kd.R_mono HO445.out (fun k_ hk => (⟨hk, hk.2⟩ : _ ∧ k_ ≠ gb456))) (fun _ hk => hk.2) (.int .i64 t450)) (fun _ hk => hk.2) (.string t451)) (fun _ h_ => h_.1))))) (Kd.R_lt (by (with_reducible repeat (first | apply Kd.R_alloc | apply Kd.R_drewN | apply Kd.R_drew)); exact (Kd.R_mono (Kd.R_far (p := ⟨gb456, 1, none⟩) (Kd.R_far (p := ⟨gb456, 0, none⟩) (Kd.R_mono HO449.out (fun k_ hk => (⟨hk, hk.2⟩ : _ ∧ k_ ≠ gb456))) (fun _ hk => hk.2) (.int .i64 t450)) (fun _ hk => hk.2) (.string t451)) (fun _ h_ => h_.1))))) (Kd.R_lt (by (with_reducible repeat (first | apply Kd.R_alloc | apply Kd.R_drewN | apply Kd.R_drew)); exact (Kd.R_mono (Kd.R_far (p := ⟨gb456, 1, none⟩) (Kd.R_far (p := ⟨gb456, 0, none⟩) (Kd.R_mono HO454.out (fun k_ hk => (⟨hk, hk.2⟩ : _ ∧ k_ ≠ gb456))) (fun _ hk => hk.2) (.int .i64 t450)) (fun _ hk => hk.2) (.string t451)) (fun _ h_ => h_.1))))) (g := gb442) (o := .cells #[.int .i64 t440, .string t441] 86 (0, 0)) (by (with_reducible repeat (first | refine blk_drewN ?_ _ | refine blk_drew ?_ | refine blk_alloc ?_ _)); refine blk_far ?_ NB442_456.out _; (with_reducible repeat (first | refine blk_drewN ?_ _ | refine blk_drew ?_ | refine blk_alloc ?_ _)); refine blk_far ?_ NB442_456.out _; (with_reducible repeat (first | refine blk_drewN ?_ _ | refine blk_drew ?_ | refine blk_alloc ?_ _)); exact BK442.out)) (g := gb456) (o := .cells #[.int .i64 t450, .string t451] 86 (0, 0)) (by (with_reducible repeat (first | refine blk_drewN ?_ _ | refine blk_drew ?_ | refine blk_alloc ?_ _)); refine blk_put (cs := #[.int .i64 t450, .string (⟨#[]⟩ : ByteArray)]) ?_ 1 _ rfl; (with_reducible repeat (first | refine blk_drewN ?_ _ | refine blk_drew ?_ | refine blk_alloc ?_ _)); refine blk_put (cs := #[.int .i64 0, .string (⟨#[]⟩ : ByteArray)]) ?_ 0 _ rfl; (with_reducible repeat (first | refine blk_drewN ?_ _ | refine blk_drew ?_ | refine blk_alloc ?_ _)); exact BK456.out)) (below_size (by repeat (first | (with_reducible first | exact HB.out | apply below_alloc | apply pw_below_drewN | apply below_drew1 | refine below_set ?_ GE442.out | refine below_set ?_ GE456.out) | exact HB.out)))); have n5_ := Aside0.mk (blk_below (g := gb442) (o := .cells #[.int .i64 t440, .string t441] 86 (0, 0)) (by (with_reducible repeat (first | refine blk_drewN ?_ _ | refine blk_drew ?_ | refine blk_alloc ?_ _)); refine blk_far ?_ NB442_456.out _; (with_reducible repeat (first | refine blk_drewN ?_ _ | refine blk_drew ?_ | refine blk_alloc ?_ _)); refine blk_far ?_ NB442_456.out _; (with_reducible repeat (first | refine blk_drewN ?_ _ | refine blk_drew ?_ | refine blk_alloc ?_ _)); exact BK442.out) hb); have n6_ := Aside0.mk (blk_below (g := gb456) (o := .cells #[.int .i64 t450, .string t451] 86 (0, 0)) (by (with_reducible repeat (first | refine blk_drewN ?_ _ | refine blk_drew ?_ | refine blk_alloc ?_ _)); refine blk_put (cs := #[.int .i64 t450, .string (⟨#[]⟩ : ByteArray)]) ?_ 1 _ rfl; (with_reducible repeat (first | refine blk_drewN ?_ _ | refine blk_drew ?_ | refine blk_alloc ?_ _)); refine blk_put (cs := #[.int .i64 0, .string (⟨#[]⟩ : ByteArray)]) ?_ 0 _ rfl; (with_reducible repeat (first | refine blk_drewN ?_ _ | refine blk_drew ?_ | refine blk_alloc ?_ _)); exact BK456.out) hb); have n7_ := Aside0.mk (below_step (by repeat (first | (with_reducible first | exact HB.out | apply below_alloc | apply pw_below_drewN | apply below_drew1 | refine below_set ?_ GE442.out | refine below_set ?_ GE456.out) | exact HB.out)) hb); clear HO439; clear HO445; clear HO449; clear HO454; clear BK442; clear BK456; clear HB; have HO439 := n0_; have HO445 := n1_; have HO449 := n2_; have HO454 := n3_; have HO460 := n4_; have BK442 := n5_; have BK456 := n6_; have HB := n7_; clear n0_ n1_ n2_ n3_ n4_ n5_ n6_ n7_; (try clear hb); (try clear hb2); (try clear hk); (try clear hi); (try clear ho0); obtain ⟨Ao39, co39, eo39⟩ := Kd.R_slice HO460.out; subst eo39) | (go_at_call 15; (with_reducible refine (impl_Chosen.calls k _ _ t457 t458 t461 _ ?side1 ?side2 A10.out).mono ?_); (case side1 => repeat (first | exact (Kd.R_reads' HO460.out).2.2 | (with_reducible refine Kd.C_alloc ?_ _) | (with_reducible refine Kd.C_drewN ?_ _) | (with_reducible refine Kd.C_drew ?_))); (case side2 => exact (Kd.R_reads' HO460.out).2.1); rintro e w40 ⟨v462, rfl, ho0, hb⟩; have n0_ := Aside0.mk (Kd.R_below (by (with_reducible repeat (first | apply Kd.R_alloc | apply Kd.R_drewN | apply Kd.R_drew)); exact HO439.out) hb); have n1_ := Aside0.mk (Kd.R_below (by (with_reducible repeat (first | apply Kd.R_alloc | apply Kd.R_drewN | apply Kd.R_drew)); exact HO445.out) hb); have n2_ := Aside0.mk (Kd.R_below (by (with_reducible repeat (first | apply Kd.R_alloc | apply Kd.R_drewN | apply Kd.R_drew)); exact HO449.out) hb); have n3_ := Aside0.mk (Kd.R_below (by (with_reducible repeat (first | apply Kd.R_alloc | apply Kd.R_drewN | apply Kd.R_drew)); exact HO454.out) hb); have n4_ := Aside0.mk (Kd.R_below (by (with_reducible repeat (first | apply Kd.R_alloc | apply Kd.R_drewN | apply Kd.R_drew)); exact HO460.out) hb); have n5_ := Aside0.mk (Kd.R_lower ho0 (below_size (by repeat (first | (with_reducible first | exact HB.out | apply below_alloc | apply pw_below_drewN | apply below_drew1 | refine below_set ?_ GE442.out | refine below_set ?_ GE456.out) | exact HB.out)))); have n6_ := Aside0.mk (blk_below (g := gb442) (o := .cells #[.int .i64 t440, .string t441] 86 (0, 0)) (by (with_reducible repeat (first | refine blk_drewN ?_ _ | refine blk_drew ?_ | refine blk_alloc ?_ _)); exact BK442.out) hb); have n7_ := Aside0.mk (blk_below (g := gb456) (o := .cells #[.int .i64 t450, .string t451] 86 (0, 0)) (by (with_reducible repeat (first | refine blk_drewN ?_ _ | refine blk_drew ?_ | refine blk_alloc ?_ _)); exact BK456.out) hb); have n8_ := Aside0.mk (below_step (by repeat (first | (with_reducible first | exact HB.out | apply below_alloc | apply pw_below_drewN | apply below_drew1 | refine below_set ?_ GE442.out | refine below_set ?_ GE456.out) | exact HB.out)) hb); clear HO439; clear HO445; clear HO449; clear HO454; clear HO460; clear BK442; clear BK456; clear HB; have HO439 := n0_; have HO445 := n1_; have HO449 := n2_; have HO454 := n3_; have HO460 := n4_; have HO463 := n5_; have BK442 := n6_; have BK456 := n7_; have HB := n8_; clear n0_ n1_ n2_ n3_ n4_ n5_ n6_ n7_ n8_; (try clear hb); (try clear hb2); (try clear hk); (try clear hi); (try clear ho0); have hcz41_0 : w40.cell? ⟨gb442, 0, none⟩ = some (.int .i64 t440) := (blk_cell BK442.out 0).trans rfl; have hcz41_1 : w40.cell? ⟨gb442, 1, none⟩ = some (.string t441) := (blk_cell BK442.out 1).trans rfl; have hfz41_0 := blk_frozen BK442.out 0; have hfz41_1 := blk_frozen BK442.out 1) | (go_at_call 60; (with_reducible refine (spec_Offered.calls k _ _ t437 t440 t441 t464 t467 _ ?side1 ?side2 A11.out).mono ?_); (case side1 => repeat (first | exact (Kd.R_reads' HO439.out).2.2 | (with_reducible refine Kd.C_alloc ?_ _) | (with_reducible refine Kd.C_drewN ?_ _) | (with_reducible refine Kd.C_drew ?_))); (case side2 => exact (Kd.R_reads' HO439.out).2.1); rintro e w42 ⟨v465, rfl, ho0, hb⟩; have n0_ := Aside0.mk (Kd.R_elder' (by (with_reducible repeat (first | apply Kd.R_alloc | apply Kd.R_drewN | apply Kd.R_drew)); exact HO439.out) (Kd.R_base ho0) hb); have n1_ := Aside0.mk (Kd.R_elder' (by (with_reducible repeat (first | apply Kd.R_alloc | apply Kd.R_drewN | apply Kd.R_drew)); exact HO445.out) (Kd.R_base ho0) hb); have n2_ := Aside0.mk (Kd.R_elder' (by (with_reducible repeat (first | apply Kd.R_alloc | apply Kd.R_drewN | apply Kd.R_drew)); exact HO449.out) (Kd.R_base ho0) hb); have n3_ := Aside0.mk (Kd.R_elder' (by (with_reducible repeat (first | apply Kd.R_alloc | apply Kd.R_drewN | apply Kd.R_drew)); exact HO454.out) (Kd.R_base ho0) hb); have n4_ := Aside0.mk (Kd.R_elder' (by (with_reducible repeat (first | apply Kd.R_alloc | apply Kd.R_drewN | apply Kd.R_drew)); exact HO460.out) (Kd.R_base ho0) hb); have n5_ := Aside0.mk (Kd.R_below (by (with_reducible repeat (first | apply Kd.R_alloc | apply Kd.R_drewN | apply Kd.R_drew)); exact HO463.out) hb); have n6_ := Aside0.mk (Kd.R_lower (Kd.R_newB (Kd.R_newB (Kd.R_new' (Kd.R_new' (Kd.R_new' (Kd.R_new' (Kd.R_new' ho0 (Kd.R_lt (by (with_reducible repeat (first | apply Kd.R_alloc | apply Kd.R_drewN | apply Kd.R_drew)); exact HO439.out))) (Kd.R_lt (by (with_reducible repeat (first | apply Kd.R_alloc | apply Kd.R_drewN | apply Kd.R_drew)); exact HO445.out))) (Kd.R_lt (by (with_reducible repeat (first | apply Kd.R_alloc | apply Kd.R_drewN | apply Kd.R_drew)); exact HO449.out))) (Kd.R_lt (by (with_reducible repeat (first | apply Kd.R_alloc | apply Kd.R_drewN | apply Kd.R_drew)); exact HO454.out))) (Kd.R_lt (by (with_reducible repeat (first | apply Kd.R_alloc | apply Kd.R_drewN | apply Kd.R_drew)); exact HO460.out))) (g := gb442) (o := .cells #[.int .i64 t440, .string t441] 86 (0, 0)) (by (with_reducible repeat (first | refine blk_drewN ?_ _ | refine blk_drew ?_ | refine blk_alloc ?_ _)); exact BK442.out)) (g := gb456) (o := .cells #[.int .i64 t450, .string t451] 86 (0, 0)) (by (with_reducible repeat (first | refine blk_drewN ?_ _ | refine blk_drew ?_ | refine blk_alloc ?_ _)); exact BK456.out)) (below_size (by repeat (first | (with_reducible first | exact HB.out | apply below_alloc | apply pw_below_drewN | apply below_drew1 | refine below_set ?_ GE442.out | refine below_set ?_ GE456.out) | exact HB.out)))); have n7_ := Aside0.mk (blk_below (g := gb442) (o := .cells #[.int .i64 t440, .string t441] 86 (0, 0)) (by (with_reducible repeat (first | refine blk_drewN ?_ _ | refine blk_drew ?_ | refine blk_alloc ?_ _)); exact BK442.out) hb); have n8_ := Aside0.mk (blk_below (g := gb456) (o := .cells #[.int .i64 t450, .string t451] 86 (0, 0)) (by (with_reducible repeat (first | refine blk_drewN ?_ _ | refine blk_drew ?_ | refine blk_alloc ?_ _)); exact BK456.out) hb); have n9_ := Aside0.mk (below_step (by repeat (first | (with_reducible first | exact HB.out | apply below_alloc | apply pw_below_drewN | apply below_drew1 | refine below_set ?_ GE442.out | refine below_set ?_ GE456.out) | exact HB.out)) hb); clear HO439; clear HO445; clear HO449; clear HO454; clear HO460; clear HO463; clear BK442; clear BK456; clear HB; have HO439 := n0_; have HO445 := n1_; have HO449 := n2_; have HO454 := n3_; have HO460 := n4_; have HO463 := n5_; have HO466 := n6_; have BK442 := n7_; have BK456 := n8_; have HB := n9_; clear n0_ n1_ n2_ n3_ n4_ n5_ n6_ n7_ n8_ n9_; (try clear hb); (try clear hb2); (try clear hk); (try clear hi); (try clear ho0); obtain ⟨Ao43, co43, eo43⟩ := Kd.R_slice HO445.out; subst eo43; obtain ⟨Ao44, co44, eo44⟩ := Kd.R_slice HO466.out; subst eo44) | (go_at_call 61; (with_reducible refine (laws_likeOffers.calls k _ _ t443 _ _ t464 true _ ?side1 ?side2 ?side3 ?side4 A13.out).mono ?_); (case side1 => repeat (first | exact (Kd.R_reads' HO445.out).2.2 | (with_reducible refine Kd.C_alloc ?_ _) | (with_reducible refine Kd.C_drewN ?_ _) | (with_reducible refine Kd.C_drew ?_))); (case side2 => exact (Kd.R_reads' HO445.out).2.1); (case side3 => repeat (first | exact (Kd.R_reads' HO466.out).2.2 | (with_reducible refine Kd.C_alloc ?_ _) | (with_reducible refine Kd.C_drewN ?_ _) | (with_reducible refine Kd.C_drew ?_))); (case side4 => exact (Kd.R_reads' HO466.out).2.1); rintro e w' ⟨rfl, ⟨nd, rfl⟩⟩; (try first | exact ⟨rfl, _, World.drewN_drewN _ _ _⟩ | exact ⟨rfl, _, Eq.trans (World.drewN_drewN _ _ _) (congrArg (World.drewN _) (Nat.add_assoc _ _ _))⟩)) | (go_at_call 62; (with_reducible refine (impl_PoolOk.calls k _ _ t447 t469 _ ?side1 ?side2 A15.out).mono ?_); (case side1 => repeat (first | exact (Kd.R_reads' HO449.out).2.2 | (with_reducible refine Kd.C_alloc ?_ _) | (with_reducible refine Kd.C_drewN ?_ _) | (with_reducible refine Kd.C_drew ?_))); (case side2 => exact (Kd.R_reads' HO449.out).2.1); rintro e w45 ⟨rfl, hb⟩; have n0_ := Aside0.mk (Kd.R_below (by (with_reducible repeat (first | apply Kd.R_alloc | apply Kd.R_drewN | apply Kd.R_drew)); exact HO439.out) hb); have n1_ := Aside0.mk (Kd.R_below (by (with_reducible repeat (first | apply Kd.R_alloc | apply Kd.R_drewN | apply Kd.R_drew)); exact HO445.out) hb); have n2_ := Aside0.mk (Kd.R_below (by (with_reducible repeat (first | apply Kd.R_alloc | apply Kd.R_drewN | apply Kd.R_drew)); exact HO449.out) hb); have n3_ := Aside0.mk (Kd.R_below (by (with_reducible repeat (first | apply Kd.R_alloc | apply Kd.R_drewN | apply Kd.R_drew)); exact HO454.out) hb); have n4_ := Aside0.mk (Kd.R_below (by (with_reducible repeat (first | apply Kd.R_alloc | apply Kd.R_drewN | apply Kd.R_drew)); exact HO460.out) hb); have n5_ := Aside0.mk (Kd.R_below (by (with_reducible repeat (first | apply Kd.R_alloc | apply Kd.R_drewN | apply Kd.R_drew)); exact HO463.out) hb); have n6_ := Aside0.mk (blk_below (g := gb442) (o := .cells #[.int .i64 t440, .string t441] 86 (0, 0)) (by (with_reducible repeat (first | refine blk_drewN ?_ _ | refine blk_drew ?_ | refine blk_alloc ?_ _)); exact BK442.out) hb); have n7_ := Aside0.mk (blk_below (g := gb456) (o := .cells #[.int .i64 t450, .string t451] 86 (0, 0)) (by (with_reducible repeat (first | refine blk_drewN ?_ _ | refine blk_drew ?_ | refine blk_alloc ?_ _)); exact BK456.out) hb); have n8_ := Aside0.mk (below_step (by repeat (first | (with_reducible first | exact HB.out | apply below_alloc | apply pw_below_drewN | apply below_drew1 | refine below_set ?_ GE442.out | refine below_set ?_ GE456.out) | exact HB.out)) hb); clear HO439; clear HO445; clear HO449; clear HO454; clear HO460; clear HO463; clear BK442; clear BK456; clear HB; have HO439 := n0_; have HO445 := n1_; have HO449 := n2_; have HO454 := n3_; have HO460 := n4_; have HO463 := n5_; have BK442 := n6_; have BK456 := n7_; have HB := n8_; clear n0_ n1_ n2_ n3_ n4_ n5_ n6_ n7_ n8_; (try clear hb); (try clear hb2); (try clear hk); (try clear hi)) | (go_at_call 63; (with_reducible refine (spec_PoolOk.calls k _ _ t447 t470 _ ?side1 ?side2 A16.out).mono ?_); (case side1 => repeat (first | exact (Kd.R_reads' HO449.out).2.2 | (with_reducible refine Kd.C_alloc ?_ _) | (with_reducible refine Kd.C_drewN ?_ _) | (with_reducible refine Kd.C_drew ?_))); (case side2 => exact (Kd.R_reads' HO449.out).2.1); rintro e w46 ⟨rfl, hb⟩; have n0_ := Aside0.mk (Kd.R_below (by (with_reducible repeat (first | apply Kd.R_alloc | apply Kd.R_drewN | apply Kd.R_drew)); exact HO439.out) hb); have n1_ := Aside0.mk (Kd.R_below (by (with_reducible repeat (first | apply Kd.R_alloc | apply Kd.R_drewN | apply Kd.R_drew)); exact HO445.out) hb); have n2_ := Aside0.mk (Kd.R_below (by (with_reducible repeat (first | apply Kd.R_alloc | apply Kd.R_drewN | apply Kd.R_drew)); exact HO449.out) hb); have n3_ := Aside0.mk (Kd.R_below (by (with_reducible repeat (first | apply Kd.R_alloc | apply Kd.R_drewN | apply Kd.R_drew)); exact HO454.out) hb); have n4_ := Aside0.mk (Kd.R_below (by (with_reducible repeat (first | apply Kd.R_alloc | apply Kd.R_drewN | apply Kd.R_drew)); exact HO460.out) hb); have n5_ := Aside0.mk (Kd.R_below (by (with_reducible repeat (first | apply Kd.R_alloc | apply Kd.R_drewN | apply Kd.R_drew)); exact HO463.out) hb); have n6_ := Aside0.mk (blk_below (g := gb442) (o := .cells #[.int .i64 t440, .string t441] 86 (0, 0)) (by (with_reducible repeat (first | refine blk_drewN ?_ _ | refine blk_drew ?_ | refine blk_alloc ?_ _)); exact BK442.out) hb); have n7_ := Aside0.mk (blk_below (g := gb456) (o := .cells #[.int .i64 t450, .string t451] 86 (0, 0)) (by (with_reducible repeat (first | refine blk_drewN ?_ _ | refine blk_drew ?_ | refine blk_alloc ?_ _)); exact BK456.out) hb); have n8_ := Aside0.mk (below_step (by repeat (first | (with_reducible first | exact HB.out | apply below_alloc | apply pw_below_drewN | apply below_drew1 | refine below_set ?_ GE442.out | refine below_set ?_ GE456.out) | exact HB.out)) hb); clear HO439; clear HO445; clear HO449; clear HO454; clear HO460; clear HO463; clear BK442; clear BK456; clear HB; have HO439 := n0_; have HO445 := n1_; have HO449 := n2_; have HO454 := n3_; have HO460 := n4_; have HO463 := n5_; have BK442 := n6_; have BK456 := n7_; have HB := n8_; clear n0_ n1_ n2_ n3_ n4_ n5_ n6_ n7_ n8_; (try clear hb); (try clear hb2); (try clear hk); (try clear hi)) | (go_at_call 13; (with_reducible refine (spec_Chosen.calls k _ _ t457 t458 t471 _ ?side1 ?side2 A18.out).mono ?_); (case side1 => repeat (first | exact (Kd.R_reads' HO460.out).2.2 | (with_reducible refine Kd.C_alloc ?_ _) | (with_reducible refine Kd.C_drewN ?_ _) | (with_reducible refine Kd.C_drew ?_))); (case side2 => exact (Kd.R_reads' HO460.out).2.1); rintro e w47 ⟨v472, rfl, ho0, hb⟩; have n0_ := Aside0.mk (Kd.R_below (by (with_reducible repeat (first | apply Kd.R_alloc | apply Kd.R_drewN | apply Kd.R_drew)); exact HO439.out) hb); have n1_ := Aside0.mk (Kd.R_below (by (with_reducible repeat (first | apply Kd.R_alloc | apply Kd.R_drewN | apply Kd.R_drew)); exact HO445.out) hb); have n2_ := Aside0.mk (Kd.R_below (by (with_reducible repeat (first | apply Kd.R_alloc | apply Kd.R_drewN | apply Kd.R_drew)); exact HO449.out) hb); have n3_ := Aside0.mk (Kd.R_below (by (with_reducible repeat (first | apply Kd.R_alloc | apply Kd.R_drewN | apply Kd.R_drew)); exact HO454.out) hb); have n4_ := Aside0.mk (Kd.R_below (by (with_reducible repeat (first | apply Kd.R_alloc | apply Kd.R_drewN | apply Kd.R_drew)); exact HO460.out) hb); have n5_ := Aside0.mk (Kd.R_elder' (by (with_reducible repeat (first | apply Kd.R_alloc | apply Kd.R_drewN | apply Kd.R_drew)); exact HO463.out) (Kd.R_base ho0) hb); have n6_ := Aside0.mk (Kd.R_lower (Kd.R_new' ho0 (Kd.R_lt (by (with_reducible repeat (first | apply Kd.R_alloc | apply Kd.R_drewN | apply Kd.R_drew)); exact HO463.out))) (below_size (by repeat (first | (with_reducible first | exact HB.out | apply below_alloc | apply pw_below_drewN | apply below_drew1 | refine below_set ?_ GE442.out | refine below_set ?_ GE456.out) | exact HB.out)))); have n7_ := Aside0.mk (blk_below (g := gb442) (o := .cells #[.int .i64 t440, .string t441] 86 (0, 0)) (by (with_reducible repeat (first | refine blk_drewN ?_ _ | refine blk_drew ?_ | refine blk_alloc ?_ _)); exact BK442.out) hb); have n8_ := Aside0.mk (blk_below (g := gb456) (o := .cells #[.int .i64 t450, .string t451] 86 (0, 0)) (by (with_reducible repeat (first | refine blk_drewN ?_ _ | refine blk_drew ?_ | refine blk_alloc ?_ _)); exact BK456.out) hb); have n9_ := Aside0.mk (below_step (by repeat (first | (with_reducible first | exact HB.out | apply below_alloc | apply pw_below_drewN | apply below_drew1 | refine below_set ?_ GE442.out | refine below_set ?_ GE456.out) | exact HB.out)) hb); clear HO439; clear HO445; clear HO449; clear HO454; clear HO460; clear HO463; clear BK442; clear BK456; clear HB; have HO439 := n0_; have HO445 := n1_; have HO449 := n2_; have HO454 := n3_; have HO460 := n4_; have HO463 := n5_; have HO473 := n6_; have BK442 := n7_; have BK456 := n8_; have HB := n9_; clear n0_ n1_ n2_ n3_ n4_ n5_ n6_ n7_ n8_ n9_; (try clear hb); (try clear hb2); (try clear hk); (try clear hi); (try clear ho0); obtain ⟨Ao48, co48, eo48⟩ := Kd.R_slice HO463.out; subst eo48; obtain ⟨Ao49, co49, eo49⟩ := Kd.R_slice HO473.out; subst eo49) | (go_at_call 64; (with_reducible refine (laws_likeTexts.calls k _ _ t461 _ _ t471 true _ ?side1 ?side2 ?side3 ?side4 A19.out).mono ?_); (case side1 => repeat (first | exact (Kd.R_reads' HO463.out).2.2 | (with_reducible refine Kd.C_alloc ?_ _) | (with_reducible refine Kd.C_drewN ?_ _) | (with_reducible refine Kd.C_drew ?_))); (case side2 => exact (Kd.R_reads' HO463.out).2.1); (case side3 => repeat (first | exact (Kd.R_reads' HO473.out).2.2 | (with_reducible refine Kd.C_alloc ?_ _) | (with_reducible refine Kd.C_drewN ?_ _) | (with_reducible refine Kd.C_drew ?_))); (case side4 => exact (Kd.R_reads' HO473.out).2.1); rintro e w' ⟨rfl, ⟨nd, rfl⟩⟩; (try first | exact ⟨rfl, _, World.drewN_drewN _ _ _⟩ | exact ⟨rfl, _, Eq.trans (World.drewN_drewN _ _ _) (congrArg (World.drewN _) (Nat.add_assoc _ _ _))⟩)) | (go_at_call 65; (with_reducible refine (spec_Next.calls k _ _ t447 t475 t476 t477 t480 _ ?side1 ?side2 A21.out).mono ?_); (case side1 => repeat (first | exact (Kd.R_reads' HO449.out).2.2 | (with_reducible refine Kd.C_alloc ?_ _) | (with_reducible refine Kd.C_drewN ?_ _) | (with_reducible refine Kd.C_drew ?_))); (case side2 => exact (Kd.R_reads' HO449.out).2.1); rintro e w50 ⟨v478, rfl, ho0, hb⟩; have n0_ := Aside0.mk (Kd.R_elder' (by (with_reducible repeat (first | apply Kd.R_alloc | apply Kd.R_drewN | apply Kd.R_drew)); exact HO439.out) (Kd.R_base ho0) hb); have n1_ := Aside0.mk (Kd.R_elder' (by (with_reducible repeat (first | apply Kd.R_alloc | apply Kd.R_drewN | apply Kd.R_drew)); exact HO445.out) (Kd.R_base ho0) hb); have n2_ := Aside0.mk (Kd.R_elder' (by (with_reducible repeat (first | apply Kd.R_alloc | apply Kd.R_drewN | apply Kd.R_drew)); exact HO449.out) (Kd.R_base ho0) hb); have n3_ := Aside0.mk (Kd.R_elder' (by (with_reducible repeat (first | apply Kd.R_alloc | apply Kd.R_drewN | apply Kd.R_drew)); exact HO454.out) (Kd.R_base ho0) hb); have n4_ := Aside0.mk (Kd.R_lower (Kd.R_newB (Kd.R_newB (Kd.R_new' (Kd.R_new' (Kd.R_new' (Kd.R_new' ho0 (Kd.R_lt (by (with_reducible repeat (first | apply Kd.R_alloc | apply Kd.R_drewN | apply Kd.R_drew)); exact HO439.out))) (Kd.R_lt (by (with_reducible repeat (first | apply Kd.R_alloc | apply Kd.R_drewN | apply Kd.R_drew)); exact HO445.out))) (Kd.R_lt (by (with_reducible repeat (first | apply Kd.R_alloc | apply Kd.R_drewN | apply Kd.R_drew)); exact HO449.out))) (Kd.R_lt (by (with_reducible repeat (first | apply Kd.R_alloc | apply Kd.R_drewN | apply Kd.R_drew)); exact HO454.out))) (g := gb442) (o := .cells #[.int .i64 t440, .string t441] 86 (0, 0)) (by (with_reducible repeat (first | refine blk_drewN ?_ _ | refine blk_drew ?_ | refine blk_alloc ?_ _)); exact BK442.out)) (g := gb456) (o := .cells #[.int .i64 t450, .string t451] 86 (0, 0)) (by (with_reducible repeat (first | refine blk_drewN ?_ _ | refine blk_drew ?_ | refine blk_alloc ?_ _)); exact BK456.out)) (below_size (by repeat (first | (with_reducible first | exact HB.out | apply below_alloc | apply pw_below_drewN | apply below_drew1 | refine below_set ?_ GE442.out | refine below_set ?_ GE456.out) | exact HB.out)))); have n5_ := Aside0.mk (blk_below (g := gb442) (o := .cells #[.int .i64 t440, .string t441] 86 (0, 0)) (by (with_reducible repeat (first | refine blk_drewN ?_ _ | refine blk_drew ?_ | refine blk_alloc ?_ _)); exact BK442.out) hb); have n6_ := Aside0.mk (blk_below (g := gb456) (o := .cells #[.int .i64 t450, .string t451] 86 (0, 0)) (by (with_reducible repeat (first | refine blk_drewN ?_ _ | refine blk_drew ?_ | refine blk_alloc ?_ _)); exact BK456.out) hb); have n7_ := Aside0.mk (below_step (by repeat (first | (with_reducible first | exact HB.out | apply below_alloc | apply pw_below_drewN | apply below_drew1 | refine below_set ?_ GE442.out | refine below_set ?_ GE456.out) | exact HB.out)) hb); clear HO439; clear HO445; clear HO449; clear HO454; clear BK442; clear BK456; clear HB; have HO439 := n0_; have HO445 := n1_; have HO449 := n2_; have HO454 := n3_; have HO479 := n4_; have BK442 := n5_; have BK456 := n6_; have HB := n7_; clear n0_ n1_ n2_ n3_ n4_ n5_ n6_ n7_; (try clear hb); (try clear hb2); (try clear hk); (try clear hi); (try clear ho0)) | ((with_reducible refine gate_dst (N := 16) rfl ?_); (try (refine gate_guard (by rfl) ?_; dsimp only)); refine box_event ?hg (N := 16) ?hd (cs := #[.int .i64 0, .string (⟨#[]⟩ : ByteArray)]) (t := 86) ?hr ?_; (case hd => rfl); (case hg => rfl); (case hr => first | (go_simp; done) | (go_simp; rfl)); intro gb481 hg w51 hbox hb; have n0_ := Aside0.mk (Kd.R_below (Kd.R_elderB (by (with_reducible repeat (first | apply Kd.R_alloc | apply Kd.R_drewN | apply Kd.R_drew)); exact HO439.out) gb481 (Nat.le_of_eq hg.symm)) hb); have n1_ := Aside0.mk (Kd.R_below (Kd.R_elderB (by (with_reducible repeat (first | apply Kd.R_alloc | apply Kd.R_drewN | apply Kd.R_drew)); exact HO445.out) gb481 (Nat.le_of_eq hg.symm)) hb); have n2_ := Aside0.mk (Kd.R_below (Kd.R_elderB (by (with_reducible repeat (first | apply Kd.R_alloc | apply Kd.R_drewN | apply Kd.R_drew)); exact HO454.out) gb481 (Nat.le_of_eq hg.symm)) hb); have n3_ := Aside0.mk (Kd.R_below (Kd.R_elderB (by (with_reducible repeat (first | apply Kd.R_alloc | apply Kd.R_drewN | apply Kd.R_drew)); exact HO479.out) gb481 (Nat.le_of_eq hg.symm)) hb); have n4_ := Aside0.mk (blk_below (g := gb442) (o := .cells #[.int .i64 t440, .string t441] 86 (0, 0)) (by (with_reducible repeat (first | refine blk_drewN ?_ _ | refine blk_drew ?_ | refine blk_alloc ?_ _)); exact BK442.out) hb); have n5_ := Aside0.mk (blk_below (g := gb456) (o := .cells #[.int .i64 t450, .string t451] 86 (0, 0)) (by (with_reducible repeat (first | refine blk_drewN ?_ _ | refine blk_drew ?_ | refine blk_alloc ?_ _)); exact BK456.out) hb); have n6_ := Aside0.mk (below_step (by repeat (first | (with_reducible first | exact HB.out | apply below_alloc | apply pw_below_drewN | apply below_drew1 | refine below_set ?_ GE442.out | refine below_set ?_ GE456.out) | exact HB.out)) hb); have n7_ := Aside0.mk (hbox); have n8_ := Aside0.mk ((by rw [hg]; exact (below_size (by repeat (first | (with_reducible first | exact HB.out | apply below_alloc | apply pw_below_drewN | apply below_drew1 | refine below_set ?_ GE442.out | refine below_set ?_ GE456.out) | exact HB.out))) : w.heap.size ≤ gb481)); have n9_ := Aside0.mk ((by rw [hg]; exact (below_size (by repeat (first | (with_reducible first | exact HB.out | apply below_alloc | apply pw_below_drewN | apply below_drew1 | refine below_set ?_ GE442.out | refine below_set ?_ GE456.out) | exact HB.out))) : w.heap.size ≤ gb481)); have n10_ := Aside0.mk ((by rw [hg]; exact Nat.ne_of_lt (blk_lt (g := gb442) (o := .cells #[.int .i64 t440, .string t441] 86 (0, 0)) (by (with_reducible repeat (first | refine blk_drewN ?_ _ | refine blk_drew ?_ | refine blk_alloc ?_ _)); exact BK442.out)) : gb442 ≠ gb481)); have n11_ := Aside0.mk ((by rw [hg]; exact Nat.ne_of_gt (blk_lt (g := gb442) (o := .cells #[.int .i64 t440, .string t441] 86 (0, 0)) (by (with_reducible repeat (first | refine blk_drewN ?_ _ | refine blk_drew ?_ | refine blk_alloc ?_ _)); exact BK442.out)) : gb481 ≠ gb442)); have n12_ := Aside0.mk ((by rw [hg]; exact Nat.ne_of_lt (blk_lt (g := gb456) (o := .cells #[.int .i64 t450, .string t451] 86 (0, 0)) (by (with_reducible repeat (first | refine blk_drewN ?_ _ | refine blk_drew ?_ | refine blk_alloc ?_ _)); exact BK456.out)) : gb456 ≠ gb481)); have n13_ := Aside0.mk ((by rw [hg]; exact Nat.ne_of_gt (blk_lt (g := gb456) (o := .cells #[.int .i64 t450, .string t451] 86 (0, 0)) (by (with_reducible repeat (first | refine blk_drewN ?_ _ | refine blk_drew ?_ | refine blk_alloc ?_ _)); exact BK456.out)) : gb481 ≠ gb456)); clear HO439; clear HO445; clear HO454; clear HO479; clear BK442; clear BK456; clear HB; have HO439 := n0_; have HO445 := n1_; have HO454 := n2_; have HO479 := n3_; have BK442 := n4_; have BK456 := n5_; have HB := n6_; have BK481 := n7_; have GW481 := n8_; have GE481 := n9_; have NB442_481 := n10_; have NB481_442 := n11_; have NB456_481 := n12_; have NB481_456 := n13_; clear n0_ n1_ n2_ n3_ n4_ n5_ n6_ n7_ n8_ n9_ n10_ n11_ n12_ n13_; clear hb hbox hg; have hnb52 := NB481_442.out; have hnc52 := NB442_481.out; have hnb53 := NB481_456.out; have hnc53 := NB456_481.out; have hcz54_0 : w51.cell? ⟨gb481, 0, none⟩ = some (.int .i64 0) := (blk_cell BK481.out 0).trans rfl; have hcz54_1 : w51.cell? ⟨gb481, 1, none⟩ = some (.string (⟨#[]⟩ : ByteArray)) := (blk_cell BK481.out 1).trans rfl; have hfz54_0 := blk_frozen BK481.out 0; have hfz54_1 := blk_frozen BK481.out 1; have hcz55_0 : w51.cell? ⟨gb456, 0, none⟩ = some (.int .i64 t450) := (blk_cell BK456.out 0).trans rfl; have hcz55_1 : w51.cell? ⟨gb456, 1, none⟩ = some (.string t451) := (blk_cell BK456.out 1).trans rfl; have hfz55_0 := blk_frozen BK456.out 0; have hfz55_1 := blk_frozen BK456.out 1; obtain ⟨Ao56, co56, eo56⟩ := Kd.R_slice HO454.out; subst eo56; obtain ⟨Ao57, co57, eo57⟩ := Kd.R_slice HO479.out; subst eo57) | (go_at_call 61; (with_reducible refine (laws_likeOffers.calls k _ _ t452 _ _ t477 true _ ?side1 ?side2 ?side3 ?side4 A24.out).mono ?_); (case side1 => exact (Kd.R_reads' (e := 86) (base := w.heap.size) (n := t452.length) (c := co56) (by (with_reducible repeat (first | apply Kd.R_alloc | apply Kd.R_drewN | apply Kd.R_drew)); exact (Kd.R_mono (Kd.R_far (p := ⟨gb481, 1, none⟩) (Kd.R_far (p := ⟨gb481, 0, none⟩) (Kd.R_mono HO454.out (fun k_ hk => (⟨hk, hk.2⟩ : _ ∧ k_ ≠ gb481))) (fun _ hk => hk.2) (.int .i64 t475)) (fun _ hk => hk.2) (.string t476)) (fun _ h_ => h_.1)))).2.2); (case side2 => exact (Kd.R_reads' HO454.out).2.1); (case side3 => exact (Kd.R_reads' (e := 86) (base := w.heap.size) (n := t477.length) (c := co57) (by (with_reducible repeat (first | apply Kd.R_alloc | apply Kd.R_drewN | apply Kd.R_drew)); exact (Kd.R_mono (Kd.R_far (p := ⟨gb481, 1, none⟩) (Kd.R_far (p := ⟨gb481, 0, none⟩) (Kd.R_mono HO479.out (fun k_ hk => (⟨hk, hk.2⟩ : _ ∧ k_ ≠ gb481))) (fun _ hk => hk.2) (.int .i64 t475)) (fun _ hk => hk.2) (.string t476)) (fun _ h_ => h_.1)))).2.2); (case side4 => exact (Kd.R_reads' HO479.out).2.1); rintro e w' ⟨rfl, ⟨nd, rfl⟩⟩; (try first | exact ⟨rfl, _, World.drewN_drewN _ _ _⟩ | exact ⟨rfl, _, Eq.trans (World.drewN_drewN _ _ _) (congrArg (World.drewN _) (Nat.add_assoc _ _ _))⟩)))
         (try simp only [Act.put, List.setIfInBounds_toArray, List.set_cons_zero, List.set_cons_succ])
         go_cut [120] (fun v120 wc => ∃ (kq : Nat) (x120_25 : Bool), v120 = .bool x120_25 ∧ Aside0 (laws_FnPool.j0 kq t437 t443 t446 x120_25 t440 t441 = some r) ∧ Aside0 (kq ≤ k) ∧ Aside0 (Kd.R k86 86 wc w.heap.size (fun k_ => some k_ ≠ ((.slice Ao43 t443.length co43) : Value).ownBlock ∧ k_ ≠ gb442 ∧ k_ ≠ gb456 ∧ k_ ≠ gb481) (.slice Ao30 t437.length co30) t437) ∧ Aside0 (Kd.R k86 86 wc w.heap.size (fun k_ => some k_ ≠ ((.slice Ao30 t437.length co30) : Value).ownBlock ∧ k_ ≠ gb442 ∧ k_ ≠ gb456 ∧ k_ ≠ gb481) (.slice Ao43 t443.length co43) t443) ∧ Aside0 (wc.heap[gb442]? = some (.cells #[.int .i64 t440, .string t441] 86 (0, 0))) ∧ Aside0 (wc.heap[gb456]? = some (.cells #[.int .i64 t450, .string t451] 86 (0, 0))) ∧ Aside0 (wc.heap[gb481]? = some (.cells #[.int .i64 t475, .string t476] 86 (0, 0))) ∧ Aside0 (Below w.heap.size w wc))
         case first =>
          have H := HC26.out
          clear HC26
          by_cases c58 : t446 = true
          ·subst c58
           have H1 : ((impl_PoolOk.f k t443).bind fun t483 => (if t483 = true then (laws_FnPool.j0 k t437 t443 true ((t443.length : Int) != (wrap64 ((t437.length : Int) + 1))) t440 t441) else (none))) = some r := by rw [if_pos rfl] at H; exact H
           clear H
           have H := H1
           clear H1
           replace H := Option.bind_eq_some_iff.mp H
           obtain ⟨t483, A590, H⟩ := H
           replace H : (if t483 = true then (laws_FnPool.j0 k t437 t443 true ((t443.length : Int) != (wrap64 ((t437.length : Int) + 1))) t440 t441) else (none)) = some r := H
           have A59 := Aside0.mk A590
           clear A590
           by_cases c60 : t483 = true
           ·subst c60
            have H1 : (laws_FnPool.j0 k t437 t443 true ((t443.length : Int) != (wrap64 ((t437.length : Int) + 1))) t440 t441) = some r := by rw [if_pos rfl] at H; exact H
            clear H
            have H := H1
            clear H1
            have H' := Aside0.mk H
            clear H
            go_wp2_with (first | (go_at_call 62; (with_reducible refine (impl_PoolOk.calls k _ _ t443 true _ ?side1 ?side2 A59.out).mono ?_); (case side1 => exact (Kd.R_reads' (e := 86) (base := w.heap.size) (n := t443.length) (c := co43) (by (with_reducible repeat (first | apply Kd.R_alloc | apply Kd.R_drewN | apply Kd.R_drew)); exact (Kd.R_mono (Kd.R_far (p := ⟨gb481, 1, none⟩) (Kd.R_far (p := ⟨gb481, 0, none⟩) (Kd.R_mono HO445.out (fun k_ hk => (⟨hk, hk.2⟩ : _ ∧ k_ ≠ gb481))) (fun _ hk => hk.2) (.int .i64 t475)) (fun _ hk => hk.2) (.string t476)) (fun _ h_ => h_.1)))).2.2); (case side2 => exact (Kd.R_reads' HO445.out).2.1); rintro e w61 ⟨rfl, hb⟩; have n0_ := Aside0.mk (Kd.R_below (by (with_reducible repeat (first | apply Kd.R_alloc | apply Kd.R_drewN | apply Kd.R_drew)); exact (Kd.R_mono (Kd.R_far (p := ⟨gb481, 1, none⟩) (Kd.R_far (p := ⟨gb481, 0, none⟩) (Kd.R_mono HO439.out (fun k_ hk => (⟨hk, hk.2⟩ : _ ∧ k_ ≠ gb481))) (fun _ hk => hk.2) (.int .i64 t475)) (fun _ hk => hk.2) (.string t476)) (fun _ h_ => h_.1))) hb); have n1_ := Aside0.mk (Kd.R_below (by (with_reducible repeat (first | apply Kd.R_alloc | apply Kd.R_drewN | apply Kd.R_drew)); exact (Kd.R_mono (Kd.R_far (p := ⟨gb481, 1, none⟩) (Kd.R_far (p := ⟨gb481, 0, none⟩) (Kd.R_mono HO445.out (fun k_ hk => (⟨hk, hk.2⟩ : _ ∧ k_ ≠ gb481))) (fun _ hk => hk.2) (.int .i64 t475)) (fun _ hk => hk.2) (.string t476)) (fun _ h_ => h_.1))) hb); have n2_ := Aside0.mk (Kd.R_below (by (with_reducible repeat (first | apply Kd.R_alloc | apply Kd.R_drewN | apply Kd.R_drew)); exact (Kd.R_mono (Kd.R_far (p := ⟨gb481, 1, none⟩) (Kd.R_far (p := ⟨gb481, 0, none⟩) (Kd.R_mono HO454.out (fun k_ hk => (⟨hk, hk.2⟩ : _ ∧ k_ ≠ gb481))) (fun _ hk => hk.2) (.int .i64 t475)) (fun _ hk => hk.2) (.string t476)) (fun _ h_ => h_.1))) hb); have n3_ := Aside0.mk (Kd.R_below (by (with_reducible repeat (first | apply Kd.R_alloc | apply Kd.R_drewN | apply Kd.R_drew)); exact (Kd.R_mono (Kd.R_far (p := ⟨gb481, 1, none⟩) (Kd.R_far (p := ⟨gb481, 0, none⟩) (Kd.R_mono HO479.out (fun k_ hk => (⟨hk, hk.2⟩ : _ ∧ k_ ≠ gb481))) (fun _ hk => hk.2) (.int .i64 t475)) (fun _ hk => hk.2) (.string t476)) (fun _ h_ => h_.1))) hb); have n4_ := Aside0.mk (blk_below (g := gb442) (o := .cells #[.int .i64 t440, .string t441] 86 (0, 0)) (by (with_reducible repeat (first | refine blk_drewN ?_ _ | refine blk_drew ?_ | refine blk_alloc ?_ _)); refine blk_far ?_ NB442_481.out _; (with_reducible repeat (first | refine blk_drewN ?_ _ | refine blk_drew ?_ | refine blk_alloc ?_ _)); refine blk_far ?_ NB442_481.out _; (with_reducible repeat (first | refine blk_drewN ?_ _ | refine blk_drew ?_ | refine blk_alloc ?_ _)); exact BK442.out) hb); have n5_ := Aside0.mk (blk_below (g := gb456) (o := .cells #[.int .i64 t450, .string t451] 86 (0, 0)) (by (with_reducible repeat (first | refine blk_drewN ?_ _ | refine blk_drew ?_ | refine blk_alloc ?_ _)); refine blk_far ?_ NB456_481.out _; (with_reducible repeat (first | refine blk_drewN ?_ _ | refine blk_drew ?_ | refine blk_alloc ?_ _)); refine blk_far ?_ NB456_481.out _; (with_reducible repeat (first | refine blk_drewN ?_ _ | refine blk_drew ?_ | refine blk_alloc ?_ _)); exact BK456.out) hb); have n6_ := Aside0.mk (blk_below (g := gb481) (o := .cells #[.int .i64 t475, .string t476] 86 (0, 0)) (by (with_reducible repeat (first | refine blk_drewN ?_ _ | refine blk_drew ?_ | refine blk_alloc ?_ _)); refine blk_put (cs := #[.int .i64 t475, .string (⟨#[]⟩ : ByteArray)]) ?_ 1 _ rfl; (with_reducible repeat (first | refine blk_drewN ?_ _ | refine blk_drew ?_ | refine blk_alloc ?_ _)); refine blk_put (cs := #[.int .i64 0, .string (⟨#[]⟩ : ByteArray)]) ?_ 0 _ rfl; (with_reducible repeat (first | refine blk_drewN ?_ _ | refine blk_drew ?_ | refine blk_alloc ?_ _)); exact BK481.out) hb); have n7_ := Aside0.mk (below_step (by repeat (first | (with_reducible first | exact HB.out | apply below_alloc | apply pw_below_drewN | apply below_drew1 | refine below_set ?_ GE442.out | refine below_set ?_ GE456.out | refine below_set ?_ GE481.out) | exact HB.out)) hb); clear HO439; clear HO445; clear HO454; clear HO479; clear BK442; clear BK456; clear BK481; clear HB; have HO439 := n0_; have HO445 := n1_; have HO454 := n2_; have HO479 := n3_; have BK442 := n4_; have BK456 := n5_; have BK481 := n6_; have HB := n7_; clear n0_ n1_ n2_ n3_ n4_ n5_ n6_ n7_; (try clear hb); (try clear hb2); (try clear hk); (try clear hi)))
            go_meet
            case rel => exact ⟨_, (((t443.length : Int) != (wrap64 ((t437.length : Int) + 1)))), (by first | rfl | (simp; done) | (simp [*]; done)), H', ⟨by first | omega | exact Nat.le_refl _⟩, ⟨by (with_reducible repeat (first | apply Kd.R_alloc | apply Kd.R_drewN | apply Kd.R_drew)); exact Kd.R_mono HO439.out (fun _ hk => ⟨hk.1.1.1.1.1.1.1.2, ⟨hk.1.1.1.1.1.1.1.1.2, ⟨hk.1.1.1.1.2, hk.2⟩⟩⟩)⟩, ⟨by (with_reducible repeat (first | apply Kd.R_alloc | apply Kd.R_drewN | apply Kd.R_drew)); exact Kd.R_mono HO445.out (fun _ hk => ⟨hk.1.1.1.1.1.1.1.1.2, ⟨hk.1.1.1.1.1.1.1.2, ⟨hk.1.1.1.1.2, hk.2⟩⟩⟩)⟩, ⟨by (with_reducible repeat (first | refine blk_drewN ?_ _ | refine blk_drew ?_ | refine blk_alloc ?_ _)); exact BK442.out⟩, ⟨by (with_reducible repeat (first | refine blk_drewN ?_ _ | refine blk_drew ?_ | refine blk_alloc ?_ _)); exact BK456.out⟩, ⟨by (with_reducible repeat (first | refine blk_drewN ?_ _ | refine blk_drew ?_ | refine blk_alloc ?_ _)); exact BK481.out⟩, ⟨by repeat (first | (with_reducible first | exact HB.out | apply below_alloc | apply pw_below_drewN | apply below_drew1 | refine below_set ?_ GE442.out | refine below_set ?_ GE456.out | refine below_set ?_ GE481.out) | exact HB.out)⟩⟩
           ·replace c60 := Bool.eq_false_iff.mpr c60
            subst c60
            have H1 : (none) = some r := by rw [if_neg (show ¬ (false = true) by decide)] at H; exact H
            clear H
            have H := H1
            clear H1
            exact absurd H (by simp)
          ·replace c58 := Bool.eq_false_iff.mpr c58
           subst c58
           have H1 : (laws_FnPool.j0 k t437 t443 false false t440 t441) = some r := by rw [if_neg (show ¬ (false = true) by decide)] at H; exact H
           clear H
           have H := H1
           clear H1
           have H' := Aside0.mk H
           clear H
           go_wp2
           repeat (go_quiet (fail); try go_wp2)
           go_meet
           case rel => exact ⟨_, (false), (by first | rfl | (simp; done) | (simp [*]; done)), H', ⟨by first | omega | exact Nat.le_refl _⟩, ⟨by (with_reducible repeat (first | apply Kd.R_alloc | apply Kd.R_drewN | apply Kd.R_drew)); exact Kd.R_mono (Kd.R_far (p := ⟨gb481, 1, none⟩) (Kd.R_far (p := ⟨gb481, 0, none⟩) (Kd.R_mono HO439.out (fun k_ hk => (⟨hk, hk.2⟩ : _ ∧ k_ ≠ gb481))) (fun _ hk => hk.2) (.int .i64 t475)) (fun _ hk => hk.2) (.string t476)) (fun _ hk => ⟨hk.1.1.1.1.1.1.1.1.2, ⟨hk.1.1.1.1.1.1.1.1.1.2, ⟨hk.1.1.1.1.1.2, hk.1.2⟩⟩⟩)⟩, ⟨by (with_reducible repeat (first | apply Kd.R_alloc | apply Kd.R_drewN | apply Kd.R_drew)); exact Kd.R_mono (Kd.R_far (p := ⟨gb481, 1, none⟩) (Kd.R_far (p := ⟨gb481, 0, none⟩) (Kd.R_mono HO445.out (fun k_ hk => (⟨hk, hk.2⟩ : _ ∧ k_ ≠ gb481))) (fun _ hk => hk.2) (.int .i64 t475)) (fun _ hk => hk.2) (.string t476)) (fun _ hk => ⟨hk.1.1.1.1.1.1.1.1.1.2, ⟨hk.1.1.1.1.1.1.1.1.2, ⟨hk.1.1.1.1.1.2, hk.1.2⟩⟩⟩)⟩, ⟨by (with_reducible repeat (first | refine blk_drewN ?_ _ | refine blk_drew ?_ | refine blk_alloc ?_ _)); refine blk_far ?_ NB442_481.out _; (with_reducible repeat (first | refine blk_drewN ?_ _ | refine blk_drew ?_ | refine blk_alloc ?_ _)); refine blk_far ?_ NB442_481.out _; (with_reducible repeat (first | refine blk_drewN ?_ _ | refine blk_drew ?_ | refine blk_alloc ?_ _)); exact BK442.out⟩, ⟨by (with_reducible repeat (first | refine blk_drewN ?_ _ | refine blk_drew ?_ | refine blk_alloc ?_ _)); refine blk_far ?_ NB456_481.out _; (with_reducible repeat (first | refine blk_drewN ?_ _ | refine blk_drew ?_ | refine blk_alloc ?_ _)); refine blk_far ?_ NB456_481.out _; (with_reducible repeat (first | refine blk_drewN ?_ _ | refine blk_drew ?_ | refine blk_alloc ?_ _)); exact BK456.out⟩, ⟨by (with_reducible repeat (first | refine blk_drewN ?_ _ | refine blk_drew ?_ | refine blk_alloc ?_ _)); refine blk_put (cs := #[.int .i64 t475, .string (⟨#[]⟩ : ByteArray)]) ?_ 1 _ rfl; (with_reducible repeat (first | refine blk_drewN ?_ _ | refine blk_drew ?_ | refine blk_alloc ?_ _)); refine blk_put (cs := #[.int .i64 0, .string (⟨#[]⟩ : ByteArray)]) ?_ 0 _ rfl; (with_reducible repeat (first | refine blk_drewN ?_ _ | refine blk_drew ?_ | refine blk_alloc ?_ _)); exact BK481.out⟩, ⟨by repeat (first | (with_reducible first | exact HB.out | apply below_alloc | apply pw_below_drewN | apply below_drew1 | refine below_set ?_ GE442.out | refine below_set ?_ GE456.out | refine below_set ?_ GE481.out) | exact HB.out)⟩⟩
         case rest =>
          clear HC26
          try clear c1
          try clear c2
          try clear p2
          try clear c3
          try clear c4
          try clear c5
          try clear c6
          try clear p6
          try clear c11
          try clear c12
          try clear c12b0
          try clear c12b1
          try clear c12b2
          try clear c14
          try clear c17
          try clear c17b0
          try clear c17b1
          try clear c17b2
          try clear c20
          try clear c22
          try clear c22b0
          try clear c22b1
          try clear c22b2
          try clear c23
          try clear c23b0
          try clear c25
          try clear c36
          try clear c52
          try clear c53
          try clear c58
          try clear c60
          try clear hcz29_0
          try clear hcz29_1
          try clear hcz37_0
          try clear hcz37_1
          try clear hcz41_0
          try clear hcz41_1
          try clear hcz54_0
          try clear hcz54_1
          try clear hcz55_0
          try clear hcz55_1
          try clear hfz29_0
          try clear hfz29_1
          try clear hfz37_0
          try clear hfz37_1
          try clear hfz41_0
          try clear hfz41_1
          try clear hfz54_0
          try clear hfz54_1
          try clear hfz55_0
          try clear hfz55_1
          obtain ⟨kq, x120_25, rfl, HA, HJ25, HO_3, HO_5, BK442, BK456, BK481, HB⟩ := hcut
          cases kq with
          | zero => exact absurd HA.out (by simp [laws_FnPool.j0])
          | succ kj25 =>
           have H := HA.out
           clear HA
           simp only [laws_FnPool.j0] at H
           by_cases c62 : x120_25 = true
           ·subst c62
            have H1 : (none) = some r := by rw [if_pos rfl] at H; exact H
            clear H
            have H := H1
            clear H1
            exact absurd H (by simp)
           ·replace c62 := Bool.eq_false_iff.mpr c62
            subst c62
            have H1 : (if t446 = true then (laws_FnPool.l0 kj25 t437 t443 0 t443 0 t440 t441 1000000001 (⟨#[]⟩ : ByteArray)) else (some ((t443.length : Int) == 0))) = some r := by rw [if_neg (show ¬ (false = true) by decide)] at H; exact H
            clear H
            have H := H1
            clear H1
            by_cases c63 : t446 = true
            ·subst c63
             have H1 : (laws_FnPool.l0 kj25 t437 t443 0 t443 0 t440 t441 1000000001 (⟨#[]⟩ : ByteArray)) = some r := by rw [if_pos rfl] at H; exact H
             clear H
             have H := H1
             clear H1
             have H' := Aside0.mk H
             clear H
             go_wp2_with (first | ((with_reducible refine gate_dst (N := 19) rfl ?_); (try (refine gate_guard (by rfl) ?_; dsimp only)); refine box_event ?hg (N := 19) ?hd (cs := #[.int .i64 0, .string (⟨#[]⟩ : ByteArray)]) (t := 86) ?hr ?_; (case hd => rfl); (case hg => rfl); (case hr => first | (go_simp; done) | (go_simp; rfl)); intro gb484 hg w64 hbox hb; have n0_ := Aside0.mk (Kd.R_below (Kd.R_elderB (by (with_reducible repeat (first | apply Kd.R_alloc | apply Kd.R_drewN | apply Kd.R_drew)); exact HO_3.out) gb484 (Nat.le_of_eq hg.symm)) hb); have n1_ := Aside0.mk (Kd.R_below (Kd.R_elderB (by (with_reducible repeat (first | apply Kd.R_alloc | apply Kd.R_drewN | apply Kd.R_drew)); exact HO_5.out) gb484 (Nat.le_of_eq hg.symm)) hb); have n2_ := Aside0.mk (blk_below (g := gb442) (o := .cells #[.int .i64 t440, .string t441] 86 (0, 0)) (by (with_reducible repeat (first | refine blk_drewN ?_ _ | refine blk_drew ?_ | refine blk_alloc ?_ _)); exact BK442.out) hb); have n3_ := Aside0.mk (blk_below (g := gb456) (o := .cells #[.int .i64 t450, .string t451] 86 (0, 0)) (by (with_reducible repeat (first | refine blk_drewN ?_ _ | refine blk_drew ?_ | refine blk_alloc ?_ _)); exact BK456.out) hb); have n4_ := Aside0.mk (blk_below (g := gb481) (o := .cells #[.int .i64 t475, .string t476] 86 (0, 0)) (by (with_reducible repeat (first | refine blk_drewN ?_ _ | refine blk_drew ?_ | refine blk_alloc ?_ _)); exact BK481.out) hb); have n5_ := Aside0.mk (below_step (by repeat (first | (with_reducible first | exact HB.out | apply below_alloc | apply pw_below_drewN | apply below_drew1 | refine below_set ?_ GE442.out | refine below_set ?_ GE456.out | refine below_set ?_ GE481.out) | exact HB.out)) hb); have n6_ := Aside0.mk (hbox); have n7_ := Aside0.mk ((by rw [hg]; exact (below_size (by repeat (first | (with_reducible first | exact HB.out | apply below_alloc | apply pw_below_drewN | apply below_drew1 | refine below_set ?_ GE442.out | refine below_set ?_ GE456.out | refine below_set ?_ GE481.out) | exact HB.out))) : w.heap.size ≤ gb484)); have n8_ := Aside0.mk ((by rw [hg]; exact (below_size (by repeat (first | (with_reducible first | exact HB.out | apply below_alloc | apply pw_below_drewN | apply below_drew1 | refine below_set ?_ GE442.out | refine below_set ?_ GE456.out | refine below_set ?_ GE481.out) | exact HB.out))) : w.heap.size ≤ gb484)); have n9_ := Aside0.mk ((by rw [hg]; exact Nat.ne_of_lt (blk_lt (g := gb442) (o := .cells #[.int .i64 t440, .string t441] 86 (0, 0)) (by (with_reducible repeat (first | refine blk_drewN ?_ _ | refine blk_drew ?_ | refine blk_alloc ?_ _)); exact BK442.out)) : gb442 ≠ gb484)); have n10_ := Aside0.mk ((by rw [hg]; exact Nat.ne_of_gt (blk_lt (g := gb442) (o := .cells #[.int .i64 t440, .string t441] 86 (0, 0)) (by (with_reducible repeat (first | refine blk_drewN ?_ _ | refine blk_drew ?_ | refine blk_alloc ?_ _)); exact BK442.out)) : gb484 ≠ gb442)); have n11_ := Aside0.mk ((by rw [hg]; exact Nat.ne_of_lt (blk_lt (g := gb456) (o := .cells #[.int .i64 t450, .string t451] 86 (0, 0)) (by (with_reducible repeat (first | refine blk_drewN ?_ _ | refine blk_drew ?_ | refine blk_alloc ?_ _)); exact BK456.out)) : gb456 ≠ gb484)); have n12_ := Aside0.mk ((by rw [hg]; exact Nat.ne_of_gt (blk_lt (g := gb456) (o := .cells #[.int .i64 t450, .string t451] 86 (0, 0)) (by (with_reducible repeat (first | refine blk_drewN ?_ _ | refine blk_drew ?_ | refine blk_alloc ?_ _)); exact BK456.out)) : gb484 ≠ gb456)); have n13_ := Aside0.mk ((by rw [hg]; exact Nat.ne_of_lt (blk_lt (g := gb481) (o := .cells #[.int .i64 t475, .string t476] 86 (0, 0)) (by (with_reducible repeat (first | refine blk_drewN ?_ _ | refine blk_drew ?_ | refine blk_alloc ?_ _)); exact BK481.out)) : gb481 ≠ gb484)); have n14_ := Aside0.mk ((by rw [hg]; exact Nat.ne_of_gt (blk_lt (g := gb481) (o := .cells #[.int .i64 t475, .string t476] 86 (0, 0)) (by (with_reducible repeat (first | refine blk_drewN ?_ _ | refine blk_drew ?_ | refine blk_alloc ?_ _)); exact BK481.out)) : gb484 ≠ gb481)); clear HO_3; clear HO_5; clear BK442; clear BK456; clear BK481; clear HB; have HO_3 := n0_; have HO_5 := n1_; have BK442 := n2_; have BK456 := n3_; have BK481 := n4_; have HB := n5_; have BK484 := n6_; have GW484 := n7_; have GE484 := n8_; have NB442_484 := n9_; have NB484_442 := n10_; have NB456_484 := n11_; have NB484_456 := n12_; have NB481_484 := n13_; have NB484_481 := n14_; clear n0_ n1_ n2_ n3_ n4_ n5_ n6_ n7_ n8_ n9_ n10_ n11_ n12_ n13_ n14_; clear hb hbox hg; have hnb65 := NB484_442.out; have hnc65 := NB442_484.out; have hnb66 := NB484_456.out; have hnc66 := NB456_484.out; have hnb67 := NB484_481.out; have hnc67 := NB481_484.out; have hcz68_0 : w64.cell? ⟨gb484, 0, none⟩ = some (.int .i64 0) := (blk_cell BK484.out 0).trans rfl; have hcz68_1 : w64.cell? ⟨gb484, 1, none⟩ = some (.string (⟨#[]⟩ : ByteArray)) := (blk_cell BK484.out 1).trans rfl; have hfz68_0 := blk_frozen BK484.out 0; have hfz68_1 := blk_frozen BK484.out 1))
             go_loopg [20, 21, 22] kj25 (fun kq v20 v21 v22 w' => ∃ (x20_2 : Int) (x21_2 : List (S86)) (x22_2 : Int) (x485000_2 : Int) (x485001_2 : ByteArray), v20 = .int .i64 x20_2 ∧ v22 = .int .i64 x22_2 ∧ Aside0 (laws_FnPool.l0 kq t437 t443 x20_2 x21_2 x22_2 t440 t441 x485000_2 x485001_2 = some r) ∧ Aside0 (kq ≤ kj25) ∧ Aside0 (Kd.R k86 86 w' w.heap.size (fun k_ => some k_ ≠ ((.slice Ao43 t443.length co43) : Value).ownBlock ∧ some k_ ≠ (v21 : Value).ownBlock ∧ k_ ≠ gb442 ∧ k_ ≠ gb456 ∧ k_ ≠ gb481 ∧ k_ ≠ gb484) (.slice Ao30 t437.length co30) t437) ∧ Aside0 (Kd.R k86 86 w' w.heap.size (fun k_ => some k_ ≠ ((.slice Ao30 t437.length co30) : Value).ownBlock ∧ k_ ≠ gb442 ∧ k_ ≠ gb456 ∧ k_ ≠ gb481 ∧ k_ ≠ gb484) (.slice Ao43 t443.length co43) t443) ∧ Aside0 (Kd.R k86 86 w' w.heap.size (fun k_ => some k_ ≠ ((.slice Ao30 t437.length co30) : Value).ownBlock ∧ k_ ≠ gb442 ∧ k_ ≠ gb456 ∧ k_ ≠ gb481 ∧ k_ ≠ gb484) v21 x21_2) ∧ Aside0 (w'.heap[gb442]? = some (.cells #[.int .i64 t440, .string t441] 86 (0, 0))) ∧ Aside0 (w'.heap[gb456]? = some (.cells #[.int .i64 t450, .string t451] 86 (0, 0))) ∧ Aside0 (w'.heap[gb481]? = some (.cells #[.int .i64 t475, .string t476] 86 (0, 0))) ∧ Aside0 (w'.heap[gb484]? = some (.cells #[.int .i64 x485000_2, .string x485001_2] 86 (0, 0))) ∧ Aside0 (Below w.heap.size w w'))
             case atStart => exact ⟨(0), (t443), (0), (1000000001), ((⟨#[]⟩ : ByteArray)), (by first | rfl | (simp; done) | (simp [*]; done)), (by first | rfl | (simp; done) | (simp [*]; done)), H', ⟨Nat.le_refl _⟩, ⟨by (with_reducible repeat (first | apply Kd.R_alloc | apply Kd.R_drewN | apply Kd.R_drew)); exact Kd.R_mono (Kd.R_far (p := ⟨gb484, 1, none⟩) (Kd.R_far (p := ⟨gb484, 0, none⟩) (Kd.R_mono HO_3.out (fun k_ hk => (⟨hk, hk.2⟩ : _ ∧ k_ ≠ gb484))) (fun _ hk => hk.2) (.int .i64 1000000001)) (fun _ hk => hk.2) (.string (⟨#[]⟩ : ByteArray))) (fun _ hk => ⟨hk.1.1.1, ⟨hk.1.1.1, ⟨hk.1.1.2.1, ⟨hk.1.1.2.2.1, ⟨hk.1.1.2.2.2, hk.1.2⟩⟩⟩⟩⟩)⟩, ⟨by (with_reducible repeat (first | apply Kd.R_alloc | apply Kd.R_drewN | apply Kd.R_drew)); exact Kd.R_mono (Kd.R_far (p := ⟨gb484, 1, none⟩) (Kd.R_far (p := ⟨gb484, 0, none⟩) (Kd.R_mono HO_5.out (fun k_ hk => (⟨hk, hk.2⟩ : _ ∧ k_ ≠ gb484))) (fun _ hk => hk.2) (.int .i64 1000000001)) (fun _ hk => hk.2) (.string (⟨#[]⟩ : ByteArray))) (fun _ hk => ⟨hk.1.1.1, ⟨hk.1.1.2.1, ⟨hk.1.1.2.2.1, ⟨hk.1.1.2.2.2, hk.1.2⟩⟩⟩⟩)⟩, ⟨by (with_reducible repeat (first | apply Kd.R_alloc | apply Kd.R_drewN | apply Kd.R_drew)); exact Kd.R_mono (Kd.R_far (p := ⟨gb484, 1, none⟩) (Kd.R_far (p := ⟨gb484, 0, none⟩) (Kd.R_mono HO_5.out (fun k_ hk => (⟨hk, hk.2⟩ : _ ∧ k_ ≠ gb484))) (fun _ hk => hk.2) (.int .i64 1000000001)) (fun _ hk => hk.2) (.string (⟨#[]⟩ : ByteArray))) (fun _ hk => ⟨hk.1.1.1, ⟨hk.1.1.2.1, ⟨hk.1.1.2.2.1, ⟨hk.1.1.2.2.2, hk.1.2⟩⟩⟩⟩)⟩, ⟨by (with_reducible repeat (first | refine blk_drewN ?_ _ | refine blk_drew ?_ | refine blk_alloc ?_ _)); refine blk_far ?_ NB442_484.out _; (with_reducible repeat (first | refine blk_drewN ?_ _ | refine blk_drew ?_ | refine blk_alloc ?_ _)); refine blk_far ?_ NB442_484.out _; (with_reducible repeat (first | refine blk_drewN ?_ _ | refine blk_drew ?_ | refine blk_alloc ?_ _)); exact BK442.out⟩, ⟨by (with_reducible repeat (first | refine blk_drewN ?_ _ | refine blk_drew ?_ | refine blk_alloc ?_ _)); refine blk_far ?_ NB456_484.out _; (with_reducible repeat (first | refine blk_drewN ?_ _ | refine blk_drew ?_ | refine blk_alloc ?_ _)); refine blk_far ?_ NB456_484.out _; (with_reducible repeat (first | refine blk_drewN ?_ _ | refine blk_drew ?_ | refine blk_alloc ?_ _)); exact BK456.out⟩, ⟨by (with_reducible repeat (first | refine blk_drewN ?_ _ | refine blk_drew ?_ | refine blk_alloc ?_ _)); refine blk_far ?_ NB481_484.out _; (with_reducible repeat (first | refine blk_drewN ?_ _ | refine blk_drew ?_ | refine blk_alloc ?_ _)); refine blk_far ?_ NB481_484.out _; (with_reducible repeat (first | refine blk_drewN ?_ _ | refine blk_drew ?_ | refine blk_alloc ?_ _)); exact BK481.out⟩, ⟨by (with_reducible repeat (first | refine blk_drewN ?_ _ | refine blk_drew ?_ | refine blk_alloc ?_ _)); refine blk_put (cs := #[.int .i64 1000000001, .string (⟨#[]⟩ : ByteArray)]) ?_ 1 _ rfl; (with_reducible repeat (first | refine blk_drewN ?_ _ | refine blk_drew ?_ | refine blk_alloc ?_ _)); refine blk_put (cs := #[.int .i64 0, .string (⟨#[]⟩ : ByteArray)]) ?_ 0 _ rfl; (with_reducible repeat (first | refine blk_drewN ?_ _ | refine blk_drew ?_ | refine blk_alloc ?_ _)); exact BK484.out⟩, ⟨by repeat (first | (with_reducible first | exact HB.out | apply below_alloc | apply pw_below_drewN | apply below_drew1 | refine below_set ?_ GE442.out | refine below_set ?_ GE456.out | refine below_set ?_ GE481.out | refine below_set ?_ GE484.out) | exact HB.out)⟩⟩
             case round =>
              clear H'
              try clear c1
              try clear c2
              try clear p2
              try clear c3
              try clear c4
              try clear c5
              try clear c6
              try clear p6
              try clear c11
              try clear c12
              try clear c12b0
              try clear c12b1
              try clear c12b2
              try clear c14
              try clear c17
              try clear c17b0
              try clear c17b1
              try clear c17b2
              try clear c20
              try clear c22
              try clear c22b0
              try clear c22b1
              try clear c22b2
              try clear c23
              try clear c23b0
              try clear c25
              try clear c36
              try clear c52
              try clear c53
              try clear c58
              try clear c60
              try clear c62
              try clear c63
              try clear p64
              try clear c65
              try clear c66
              try clear c67
              try clear hcz29_0
              try clear hcz29_1
              try clear hcz37_0
              try clear hcz37_1
              try clear hcz41_0
              try clear hcz41_1
              try clear hcz54_0
              try clear hcz54_1
              try clear hcz55_0
              try clear hcz55_1
              try clear hcz68_0
              try clear hcz68_1
              try clear hfz29_0
              try clear hfz29_1
              try clear hfz37_0
              try clear hfz37_1
              try clear hfz41_0
              try clear hfz41_1
              try clear hfz54_0
              try clear hfz54_1
              try clear hfz55_0
              try clear hfz55_1
              try clear hfz68_0
              try clear hfz68_1
              try clear p2
              try clear p6
              obtain ⟨x20_2, x21_2, x22_2, x485000_2, x485001_2, rfl, rfl, HA, HK2, HO_3, HO_5, HO_21, BK442, BK456, BK481, BK484, HB⟩ := hrel
              cases gk with
              | zero => exact absurd HA.out (by simp [laws_FnPool.l0])
              | succ k2 =>
               have H := HA.out
               clear HA
               simp only [laws_FnPool.l0] at H
               by_cases c69 : x22_2 < (t443.length : Int)
               ·rw [if_pos c69] at H
                have c69b0 : decide (x22_2 < (t443.length : Int)) = true := decide_eq_true c69
                clear c69
                replace H := Option.bind_eq_some_iff.mp H
                obtain ⟨⟨t485, t486, t487, t490⟩, A700, H⟩ := H
                replace H : (if t490 = true then ((impl_PoolOk.f k2 t487).bind fun t492 => (if t492 = true then (if (t487.length : Int) = (wrap64 ((x21_2.length : Int) - 1)) then (if t485 > x485000_2 then (none) else (if t485 = x485000_2 then (laws_FnPool.j2 k2 t437 t443 x20_2 x22_2 t487 (Op.bytesLess t486.toList x485001_2.toList) t440 t441 t485 t486) else (laws_FnPool.j2 k2 t437 t443 x20_2 x22_2 t487 false t440 t441 t485 t486))) else (none)) else (none))) else (none)) = some r := H
                have A70 := Aside0.mk A700
                clear A700
                have HC71 := Aside0.mk H
                clear H
                obtain ⟨Ao72, co72, eo72⟩ := Kd.R_slice HO_21.out
                subst eo72
                go_upto_region 26 with (first | (go_at_call 58; (with_reducible refine (impl_Next.calls k2 _ _ x21_2 t485 t486 t487 t490 _ ?side1 ?side2 A70.out).mono ?_); (case side1 => repeat (first | exact (Kd.R_reads' HO_21.out).2.2 | (with_reducible refine Kd.C_alloc ?_ _) | (with_reducible refine Kd.C_drewN ?_ _) | (with_reducible refine Kd.C_drew ?_))); (case side2 => exact (Kd.R_reads' HO_21.out).2.1); rintro e w73 ⟨v488, rfl, ho0, hb⟩; have n0_ := Aside0.mk (Kd.R_elder' (by (with_reducible repeat (first | apply Kd.R_alloc | apply Kd.R_drewN | apply Kd.R_drew)); exact HO_3.out) (Kd.R_base ho0) hb); have n1_ := Aside0.mk (Kd.R_elder' (by (with_reducible repeat (first | apply Kd.R_alloc | apply Kd.R_drewN | apply Kd.R_drew)); exact HO_5.out) (Kd.R_base ho0) hb); have n2_ := Aside0.mk (Kd.R_elder' (by (with_reducible repeat (first | apply Kd.R_alloc | apply Kd.R_drewN | apply Kd.R_drew)); exact HO_21.out) (Kd.R_base ho0) hb); have n3_ := Aside0.mk (Kd.R_lower (Kd.R_newB (Kd.R_newB (Kd.R_newB (Kd.R_newB (Kd.R_new' (Kd.R_new' (Kd.R_new' ho0 (Kd.R_lt (by (with_reducible repeat (first | apply Kd.R_alloc | apply Kd.R_drewN | apply Kd.R_drew)); exact HO_3.out))) (Kd.R_lt (by (with_reducible repeat (first | apply Kd.R_alloc | apply Kd.R_drewN | apply Kd.R_drew)); exact HO_5.out))) (Kd.R_lt (by (with_reducible repeat (first | apply Kd.R_alloc | apply Kd.R_drewN | apply Kd.R_drew)); exact HO_21.out))) (g := gb442) (o := .cells #[.int .i64 t440, .string t441] 86 (0, 0)) (by (with_reducible repeat (first | refine blk_drewN ?_ _ | refine blk_drew ?_ | refine blk_alloc ?_ _)); exact BK442.out)) (g := gb456) (o := .cells #[.int .i64 t450, .string t451] 86 (0, 0)) (by (with_reducible repeat (first | refine blk_drewN ?_ _ | refine blk_drew ?_ | refine blk_alloc ?_ _)); exact BK456.out)) (g := gb481) (o := .cells #[.int .i64 t475, .string t476] 86 (0, 0)) (by (with_reducible repeat (first | refine blk_drewN ?_ _ | refine blk_drew ?_ | refine blk_alloc ?_ _)); exact BK481.out)) (g := gb484) (o := .cells #[.int .i64 x485000_2, .string x485001_2] 86 (0, 0)) (by (with_reducible repeat (first | refine blk_drewN ?_ _ | refine blk_drew ?_ | refine blk_alloc ?_ _)); exact BK484.out)) (below_size (by repeat (first | (with_reducible first | exact HB.out | apply below_alloc | apply pw_below_drewN | apply below_drew1 | refine below_set ?_ GE442.out | refine below_set ?_ GE456.out | refine below_set ?_ GE481.out | refine below_set ?_ GE484.out) | exact HB.out)))); have n4_ := Aside0.mk (blk_below (g := gb442) (o := .cells #[.int .i64 t440, .string t441] 86 (0, 0)) (by (with_reducible repeat (first | refine blk_drewN ?_ _ | refine blk_drew ?_ | refine blk_alloc ?_ _)); exact BK442.out) hb); have n5_ := Aside0.mk (blk_below (g := gb456) (o := .cells #[.int .i64 t450, .string t451] 86 (0, 0)) (by (with_reducible repeat (first | refine blk_drewN ?_ _ | refine blk_drew ?_ | refine blk_alloc ?_ _)); exact BK456.out) hb); have n6_ := Aside0.mk (blk_below (g := gb481) (o := .cells #[.int .i64 t475, .string t476] 86 (0, 0)) (by (with_reducible repeat (first | refine blk_drewN ?_ _ | refine blk_drew ?_ | refine blk_alloc ?_ _)); exact BK481.out) hb); have n7_ := Aside0.mk (blk_below (g := gb484) (o := .cells #[.int .i64 x485000_2, .string x485001_2] 86 (0, 0)) (by (with_reducible repeat (first | refine blk_drewN ?_ _ | refine blk_drew ?_ | refine blk_alloc ?_ _)); exact BK484.out) hb); have n8_ := Aside0.mk (below_step (by repeat (first | (with_reducible first | exact HB.out | apply below_alloc | apply pw_below_drewN | apply below_drew1 | refine below_set ?_ GE442.out | refine below_set ?_ GE456.out | refine below_set ?_ GE481.out | refine below_set ?_ GE484.out) | exact HB.out)) hb); clear HO_3; clear HO_5; clear HO_21; clear BK442; clear BK456; clear BK481; clear BK484; clear HB; have HO_3 := n0_; have HO_5 := n1_; have HO_21 := n2_; have HO489 := n3_; have BK442 := n4_; have BK456 := n5_; have BK481 := n6_; have BK484 := n7_; have HB := n8_; clear n0_ n1_ n2_ n3_ n4_ n5_ n6_ n7_ n8_; (try clear hb); (try clear hb2); (try clear hk); (try clear hi); (try clear ho0)) | ((with_reducible refine gate_dst (N := 23) rfl ?_); (try (refine gate_guard (by rfl) ?_; dsimp only)); refine box_event ?hg (N := 23) ?hd (cs := #[.int .i64 0, .string (⟨#[]⟩ : ByteArray)]) (t := 86) ?hr ?_; (case hd => rfl); (case hg => rfl); (case hr => first | (go_simp; done) | (go_simp; rfl)); intro gb491 hg w74 hbox hb; have n0_ := Aside0.mk (Kd.R_below (Kd.R_elderB (by (with_reducible repeat (first | apply Kd.R_alloc | apply Kd.R_drewN | apply Kd.R_drew)); exact HO_3.out) gb491 (Nat.le_of_eq hg.symm)) hb); have n1_ := Aside0.mk (Kd.R_below (Kd.R_elderB (by (with_reducible repeat (first | apply Kd.R_alloc | apply Kd.R_drewN | apply Kd.R_drew)); exact HO_5.out) gb491 (Nat.le_of_eq hg.symm)) hb); have n2_ := Aside0.mk (Kd.R_below (Kd.R_elderB (by (with_reducible repeat (first | apply Kd.R_alloc | apply Kd.R_drewN | apply Kd.R_drew)); exact HO_21.out) gb491 (Nat.le_of_eq hg.symm)) hb); have n3_ := Aside0.mk (Kd.R_below (Kd.R_elderB (by (with_reducible repeat (first | apply Kd.R_alloc | apply Kd.R_drewN | apply Kd.R_drew)); exact HO489.out) gb491 (Nat.le_of_eq hg.symm)) hb); have n4_ := Aside0.mk (blk_below (g := gb442) (o := .cells #[.int .i64 t440, .string t441] 86 (0, 0)) (by (with_reducible repeat (first | refine blk_drewN ?_ _ | refine blk_drew ?_ | refine blk_alloc ?_ _)); exact BK442.out) hb); have n5_ := Aside0.mk (blk_below (g := gb456) (o := .cells #[.int .i64 t450, .string t451] 86 (0, 0)) (by (with_reducible repeat (first | refine blk_drewN ?_ _ | refine blk_drew ?_ | refine blk_alloc ?_ _)); exact BK456.out) hb); have n6_ := Aside0.mk (blk_below (g := gb481) (o := .cells #[.int .i64 t475, .string t476] 86 (0, 0)) (by (with_reducible repeat (first | refine blk_drewN ?_ _ | refine blk_drew ?_ | refine blk_alloc ?_ _)); exact BK481.out) hb); have n7_ := Aside0.mk (blk_below (g := gb484) (o := .cells #[.int .i64 x485000_2, .string x485001_2] 86 (0, 0)) (by (with_reducible repeat (first | refine blk_drewN ?_ _ | refine blk_drew ?_ | refine blk_alloc ?_ _)); exact BK484.out) hb); have n8_ := Aside0.mk (below_step (by repeat (first | (with_reducible first | exact HB.out | apply below_alloc | apply pw_below_drewN | apply below_drew1 | refine below_set ?_ GE442.out | refine below_set ?_ GE456.out | refine below_set ?_ GE481.out | refine below_set ?_ GE484.out) | exact HB.out)) hb); have n9_ := Aside0.mk (hbox); have n10_ := Aside0.mk ((by rw [hg]; exact (below_size (by repeat (first | (with_reducible first | exact HB.out | apply below_alloc | apply pw_below_drewN | apply below_drew1 | refine below_set ?_ GE442.out | refine below_set ?_ GE456.out | refine below_set ?_ GE481.out | refine below_set ?_ GE484.out) | exact HB.out))) : w.heap.size ≤ gb491)); have n11_ := Aside0.mk ((by rw [hg]; exact (below_size (by repeat (first | (with_reducible first | exact HB.out | apply below_alloc | apply pw_below_drewN | apply below_drew1 | refine below_set ?_ GE442.out | refine below_set ?_ GE456.out | refine below_set ?_ GE481.out | refine below_set ?_ GE484.out) | exact HB.out))) : w.heap.size ≤ gb491)); have n12_ := Aside0.mk ((by rw [hg]; exact Nat.ne_of_lt (blk_lt (g := gb442) (o := .cells #[.int .i64 t440, .string t441] 86 (0, 0)) (by (with_reducible repeat (first | refine blk_drewN ?_ _ | refine blk_drew ?_ | refine blk_alloc ?_ _)); exact BK442.out)) : gb442 ≠ gb491)); have n13_ := Aside0.mk ((by rw [hg]; exact Nat.ne_of_gt (blk_lt (g := gb442) (o := .cells #[.int .i64 t440, .string t441] 86 (0, 0)) (by (with_reducible repeat (first | refine blk_drewN ?_ _ | refine blk_drew ?_ | refine blk_alloc ?_ _)); exact BK442.out)) : gb491 ≠ gb442)); have n14_ := Aside0.mk ((by rw [hg]; exact Nat.ne_of_lt (blk_lt (g := gb456) (o := .cells #[.int .i64 t450, .string t451] 86 (0, 0)) (by (with_reducible repeat (first | refine blk_drewN ?_ _ | refine blk_drew ?_ | refine blk_alloc ?_ _)); exact BK456.out)) : gb456 ≠ gb491)); have n15_ := Aside0.mk ((by rw [hg]; exact Nat.ne_of_gt (blk_lt (g := gb456) (o := .cells #[.int .i64 t450, .string t451] 86 (0, 0)) (by (with_reducible repeat (first | refine blk_drewN ?_ _ | refine blk_drew ?_ | refine blk_alloc ?_ _)); exact BK456.out)) : gb491 ≠ gb456)); have n16_ := Aside0.mk ((by rw [hg]; exact Nat.ne_of_lt (blk_lt (g := gb481) (o := .cells #[.int .i64 t475, .string t476] 86 (0, 0)) (by (with_reducible repeat (first | refine blk_drewN ?_ _ | refine blk_drew ?_ | refine blk_alloc ?_ _)); exact BK481.out)) : gb481 ≠ gb491)); have n17_ := Aside0.mk ((by rw [hg]; exact Nat.ne_of_gt (blk_lt (g := gb481) (o := .cells #[.int .i64 t475, .string t476] 86 (0, 0)) (by (with_reducible repeat (first | refine blk_drewN ?_ _ | refine blk_drew ?_ | refine blk_alloc ?_ _)); exact BK481.out)) : gb491 ≠ gb481)); have n18_ := Aside0.mk ((by rw [hg]; exact Nat.ne_of_lt (blk_lt (g := gb484) (o := .cells #[.int .i64 x485000_2, .string x485001_2] 86 (0, 0)) (by (with_reducible repeat (first | refine blk_drewN ?_ _ | refine blk_drew ?_ | refine blk_alloc ?_ _)); exact BK484.out)) : gb484 ≠ gb491)); have n19_ := Aside0.mk ((by rw [hg]; exact Nat.ne_of_gt (blk_lt (g := gb484) (o := .cells #[.int .i64 x485000_2, .string x485001_2] 86 (0, 0)) (by (with_reducible repeat (first | refine blk_drewN ?_ _ | refine blk_drew ?_ | refine blk_alloc ?_ _)); exact BK484.out)) : gb491 ≠ gb484)); clear HO_3; clear HO_5; clear HO_21; clear HO489; clear BK442; clear BK456; clear BK481; clear BK484; clear HB; have HO_3 := n0_; have HO_5 := n1_; have HO_21 := n2_; have HO489 := n3_; have BK442 := n4_; have BK456 := n5_; have BK481 := n6_; have BK484 := n7_; have HB := n8_; have BK491 := n9_; have GW491 := n10_; have GE491 := n11_; have NB442_491 := n12_; have NB491_442 := n13_; have NB456_491 := n14_; have NB491_456 := n15_; have NB481_491 := n16_; have NB491_481 := n17_; have NB484_491 := n18_; have NB491_484 := n19_; clear n0_ n1_ n2_ n3_ n4_ n5_ n6_ n7_ n8_ n9_ n10_ n11_ n12_ n13_ n14_ n15_ n16_ n17_ n18_ n19_; clear hb hbox hg; have hnb75 := NB491_442.out; have hnc75 := NB442_491.out; have hnb76 := NB491_456.out; have hnc76 := NB456_491.out; have hnb77 := NB491_481.out; have hnc77 := NB481_491.out; have hnb78 := NB491_484.out; have hnc78 := NB484_491.out; have hcz79_0 : w74.cell? ⟨gb491, 0, none⟩ = some (.int .i64 0) := (blk_cell BK491.out 0).trans rfl; have hcz79_1 : w74.cell? ⟨gb491, 1, none⟩ = some (.string (⟨#[]⟩ : ByteArray)) := (blk_cell BK491.out 1).trans rfl; have hfz79_0 := blk_frozen BK491.out 0; have hfz79_1 := blk_frozen BK491.out 1))
                (try simp only [Act.put, List.setIfInBounds_toArray, List.set_cons_zero, List.set_cons_succ])
                go_cut [175] (fun v175 wc => ∃ (kq : Nat) (x175_70 : Bool), v175 = .bool x175_70 ∧ Aside0 (laws_FnPool.j2 kq t437 t443 x20_2 x22_2 t487 x175_70 t440 t441 t485 t486 = some r) ∧ Aside0 (kq ≤ k2) ∧ Aside0 (Kd.R k86 86 wc w.heap.size (fun k_ => some k_ ≠ ((.slice Ao43 t443.length co43) : Value).ownBlock ∧ some k_ ≠ (v488 : Value).ownBlock ∧ k_ ≠ gb442 ∧ k_ ≠ gb456 ∧ k_ ≠ gb481 ∧ k_ ≠ gb484 ∧ k_ ≠ gb491) (.slice Ao30 t437.length co30) t437) ∧ Aside0 (Kd.R k86 86 wc w.heap.size (fun k_ => some k_ ≠ ((.slice Ao30 t437.length co30) : Value).ownBlock ∧ some k_ ≠ (v488 : Value).ownBlock ∧ k_ ≠ gb442 ∧ k_ ≠ gb456 ∧ k_ ≠ gb481 ∧ k_ ≠ gb484 ∧ k_ ≠ gb491) (.slice Ao43 t443.length co43) t443) ∧ Aside0 (Kd.R k86 86 wc w.heap.size (fun k_ => some k_ ≠ ((.slice Ao30 t437.length co30) : Value).ownBlock ∧ some k_ ≠ ((.slice Ao43 t443.length co43) : Value).ownBlock ∧ k_ ≠ gb442 ∧ k_ ≠ gb456 ∧ k_ ≠ gb481 ∧ k_ ≠ gb484 ∧ k_ ≠ gb491) v488 t487) ∧ Aside0 (wc.heap[gb442]? = some (.cells #[.int .i64 t440, .string t441] 86 (0, 0))) ∧ Aside0 (wc.heap[gb456]? = some (.cells #[.int .i64 t450, .string t451] 86 (0, 0))) ∧ Aside0 (wc.heap[gb481]? = some (.cells #[.int .i64 t475, .string t476] 86 (0, 0))) ∧ Aside0 (wc.heap[gb484]? = some (.cells #[.int .i64 x485000_2, .string x485001_2] 86 (0, 0))) ∧ Aside0 (wc.heap[gb491]? = some (.cells #[.int .i64 t485, .string t486] 86 (0, 0))) ∧ Aside0 (Below w.heap.size w wc))
                case first =>
                 have H := HC71.out
                 clear HC71
                 by_cases c80 : t490 = true
                 ·subst c80
                  have H1 : ((impl_PoolOk.f k2 t487).bind fun t492 => (if t492 = true then (if (t487.length : Int) = (wrap64 ((x21_2.length : Int) - 1)) then (if t485 > x485000_2 then (none) else (if t485 = x485000_2 then (laws_FnPool.j2 k2 t437 t443 x20_2 x22_2 t487 (Op.bytesLess t486.toList x485001_2.toList) t440 t441 t485 t486) else (laws_FnPool.j2 k2 t437 t443 x20_2 x22_2 t487 false t440 t441 t485 t486))) else (none)) else (none))) = some r := by rw [if_pos rfl] at H; exact H
                  clear H
                  have H := H1
                  clear H1
                  replace H := Option.bind_eq_some_iff.mp H
                  obtain ⟨t492, A810, H⟩ := H
                  replace H : (if t492 = true then (if (t487.length : Int) = (wrap64 ((x21_2.length : Int) - 1)) then (if t485 > x485000_2 then (none) else (if t485 = x485000_2 then (laws_FnPool.j2 k2 t437 t443 x20_2 x22_2 t487 (Op.bytesLess t486.toList x485001_2.toList) t440 t441 t485 t486) else (laws_FnPool.j2 k2 t437 t443 x20_2 x22_2 t487 false t440 t441 t485 t486))) else (none)) else (none)) = some r := H
                  have A81 := Aside0.mk A810
                  clear A810
                  by_cases c82 : t492 = true
                  ·subst c82
                   have H1 : (if (t487.length : Int) = (wrap64 ((x21_2.length : Int) - 1)) then (if t485 > x485000_2 then (none) else (if t485 = x485000_2 then (laws_FnPool.j2 k2 t437 t443 x20_2 x22_2 t487 (Op.bytesLess t486.toList x485001_2.toList) t440 t441 t485 t486) else (laws_FnPool.j2 k2 t437 t443 x20_2 x22_2 t487 false t440 t441 t485 t486))) else (none)) = some r := by rw [if_pos rfl] at H; exact H
                   clear H
                   have H := H1
                   clear H1
                   by_cases c83 : (t487.length : Int) = (wrap64 ((x21_2.length : Int) - 1))
                   ·rw [if_pos c83] at H
                    have c83b0 : ((t487.length : Int) == (wrap64 ((x21_2.length : Int) - 1))) = true := beq_iff_eq.mpr c83
                    have c83b1 : ((t487.length : Int) != (wrap64 ((x21_2.length : Int) - 1))) = false := bne_eq_false_iff_eq.mpr c83
                    clear c83
                    (first | rw [c83b0] | (simp only [i64_w, i32_w]; rw [c83b0]) | skip)
                    try rw [c83b1]
                    by_cases c84 : t485 > x485000_2
                    ·rw [if_pos c84] at H
                     exact absurd H (by simp)
                    ·rw [if_neg c84] at H
                     have c84b0 : decide (x485000_2 < t485) = false := decide_eq_false c84
                     clear c84
                     by_cases c85 : t485 = x485000_2
                     ·rw [if_pos c85] at H
                      have c85b0 : (t485 == x485000_2) = true := beq_iff_eq.mpr c85
                      have c85b1 : (t485 != x485000_2) = false := bne_eq_false_iff_eq.mpr c85
                      clear c85
                      have H' := Aside0.mk H
                      clear H
                      obtain ⟨Ao86, co86, eo86⟩ := Kd.R_slice HO489.out
                      subst eo86
                      go_wp2_with (first | (go_at_call 62; (with_reducible refine (impl_PoolOk.calls k2 _ _ t487 true _ ?side1 ?side2 A81.out).mono ?_); (case side1 => refine (Kd.R_reads' (e := 86) (base := w.heap.size) (ok := fun k_ => ((((((((True ∧ some k_ ≠ (.slice Ao30 t437.length co30 : Value).ownBlock) ∧ some k_ ≠ (.slice Ao43 t443.length co43 : Value).ownBlock) ∧ some k_ ≠ (.slice Ao72 x21_2.length co72 : Value).ownBlock) ∧ k_ ≠ gb442) ∧ k_ ≠ gb456) ∧ k_ ≠ gb481) ∧ k_ ≠ gb484) ∧ k_ ≠ gb491)) (n := t487.length) (c := co86) ?_).2.2; exact (by (with_reducible repeat (first | apply Kd.R_alloc | apply Kd.R_drewN | apply Kd.R_drew)); exact (Kd.R_mono (Kd.R_far (p := ⟨gb491, 1, none⟩) (Kd.R_far (p := ⟨gb491, 0, none⟩) (Kd.R_mono HO489.out (fun k_ hk => (⟨hk, hk.2⟩ : _ ∧ k_ ≠ gb491))) (fun _ hk => hk.2) (.int .i64 t485)) (fun _ hk => hk.2) (.string t486)) (fun _ h_ => h_.1)))); (case side2 => exact (Kd.R_reads' HO489.out).2.1); rintro e w87 ⟨rfl, hb⟩; have n0_ := Aside0.mk (Kd.R_below (by (with_reducible repeat (first | apply Kd.R_alloc | apply Kd.R_drewN | apply Kd.R_drew)); exact (Kd.R_mono (Kd.R_far (p := ⟨gb491, 1, none⟩) (Kd.R_far (p := ⟨gb491, 0, none⟩) (Kd.R_mono HO_3.out (fun k_ hk => (⟨hk, hk.2⟩ : _ ∧ k_ ≠ gb491))) (fun _ hk => hk.2) (.int .i64 t485)) (fun _ hk => hk.2) (.string t486)) (fun _ h_ => h_.1))) hb); have n1_ := Aside0.mk (Kd.R_below (by (with_reducible repeat (first | apply Kd.R_alloc | apply Kd.R_drewN | apply Kd.R_drew)); exact (Kd.R_mono (Kd.R_far (p := ⟨gb491, 1, none⟩) (Kd.R_far (p := ⟨gb491, 0, none⟩) (Kd.R_mono HO_5.out (fun k_ hk => (⟨hk, hk.2⟩ : _ ∧ k_ ≠ gb491))) (fun _ hk => hk.2) (.int .i64 t485)) (fun _ hk => hk.2) (.string t486)) (fun _ h_ => h_.1))) hb); have n2_ := Aside0.mk (Kd.R_below (by (with_reducible repeat (first | apply Kd.R_alloc | apply Kd.R_drewN | apply Kd.R_drew)); exact (Kd.R_mono (Kd.R_far (p := ⟨gb491, 1, none⟩) (Kd.R_far (p := ⟨gb491, 0, none⟩) (Kd.R_mono HO_21.out (fun k_ hk => (⟨hk, hk.2⟩ : _ ∧ k_ ≠ gb491))) (fun _ hk => hk.2) (.int .i64 t485)) (fun _ hk => hk.2) (.string t486)) (fun _ h_ => h_.1))) hb); have n3_ := Aside0.mk (Kd.R_below (by (with_reducible repeat (first | apply Kd.R_alloc | apply Kd.R_drewN | apply Kd.R_drew)); exact (Kd.R_mono (Kd.R_far (p := ⟨gb491, 1, none⟩) (Kd.R_far (p := ⟨gb491, 0, none⟩) (Kd.R_mono HO489.out (fun k_ hk => (⟨hk, hk.2⟩ : _ ∧ k_ ≠ gb491))) (fun _ hk => hk.2) (.int .i64 t485)) (fun _ hk => hk.2) (.string t486)) (fun _ h_ => h_.1))) hb); have n4_ := Aside0.mk (blk_below (g := gb442) (o := .cells #[.int .i64 t440, .string t441] 86 (0, 0)) (by (with_reducible repeat (first | refine blk_drewN ?_ _ | refine blk_drew ?_ | refine blk_alloc ?_ _)); refine blk_far ?_ NB442_491.out _; (with_reducible repeat (first | refine blk_drewN ?_ _ | refine blk_drew ?_ | refine blk_alloc ?_ _)); refine blk_far ?_ NB442_491.out _; (with_reducible repeat (first | refine blk_drewN ?_ _ | refine blk_drew ?_ | refine blk_alloc ?_ _)); exact BK442.out) hb); have n5_ := Aside0.mk (blk_below (g := gb456) (o := .cells #[.int .i64 t450, .string t451] 86 (0, 0)) (by (with_reducible repeat (first | refine blk_drewN ?_ _ | refine blk_drew ?_ | refine blk_alloc ?_ _)); refine blk_far ?_ NB456_491.out _; (with_reducible repeat (first | refine blk_drewN ?_ _ | refine blk_drew ?_ | refine blk_alloc ?_ _)); refine blk_far ?_ NB456_491.out _; (with_reducible repeat (first | refine blk_drewN ?_ _ | refine blk_drew ?_ | refine blk_alloc ?_ _)); exact BK456.out) hb); have n6_ := Aside0.mk (blk_below (g := gb481) (o := .cells #[.int .i64 t475, .string t476] 86 (0, 0)) (by (with_reducible repeat (first | refine blk_drewN ?_ _ | refine blk_drew ?_ | refine blk_alloc ?_ _)); refine blk_far ?_ NB481_491.out _; (with_reducible repeat (first | refine blk_drewN ?_ _ | refine blk_drew ?_ | refine blk_alloc ?_ _)); refine blk_far ?_ NB481_491.out _; (with_reducible repeat (first | refine blk_drewN ?_ _ | refine blk_drew ?_ | refine blk_alloc ?_ _)); exact BK481.out) hb); have n7_ := Aside0.mk (blk_below (g := gb484) (o := .cells #[.int .i64 x485000_2, .string x485001_2] 86 (0, 0)) (by (with_reducible repeat (first | refine blk_drewN ?_ _ | refine blk_drew ?_ | refine blk_alloc ?_ _)); refine blk_far ?_ NB484_491.out _; (with_reducible repeat (first | refine blk_drewN ?_ _ | refine blk_drew ?_ | refine blk_alloc ?_ _)); refine blk_far ?_ NB484_491.out _; (with_reducible repeat (first | refine blk_drewN ?_ _ | refine blk_drew ?_ | refine blk_alloc ?_ _)); exact BK484.out) hb); have n8_ := Aside0.mk (blk_below (g := gb491) (o := .cells #[.int .i64 t485, .string t486] 86 (0, 0)) (by (with_reducible repeat (first | refine blk_drewN ?_ _ | refine blk_drew ?_ | refine blk_alloc ?_ _)); refine blk_put (cs := #[.int .i64 t485, .string (⟨#[]⟩ : ByteArray)]) ?_ 1 _ rfl; (with_reducible repeat (first | refine blk_drewN ?_ _ | refine blk_drew ?_ | refine blk_alloc ?_ _)); refine blk_put (cs := #[.int .i64 0, .string (⟨#[]⟩ : ByteArray)]) ?_ 0 _ rfl; (with_reducible repeat (first | refine blk_drewN ?_ _ | refine blk_drew ?_ | refine blk_alloc ?_ _)); exact BK491.out) hb); have n9_ := Aside0.mk (below_step (by repeat (first | (with_reducible first | exact HB.out | apply below_alloc | apply pw_below_drewN | apply below_drew1 | refine below_set ?_ GE442.out | refine below_set ?_ GE456.out | refine below_set ?_ GE481.out | refine below_set ?_ GE484.out | refine below_set ?_ GE491.out) | exact HB.out)) hb); clear HO_3; clear HO_5; clear HO_21; clear HO489; clear BK442; clear BK456; clear BK481; clear BK484; clear BK491; clear HB; have HO_3 := n0_; have HO_5 := n1_; have HO_21 := n2_; have HO489 := n3_; have BK442 := n4_; have BK456 := n5_; have BK481 := n6_; have BK484 := n7_; have BK491 := n8_; have HB := n9_; clear n0_ n1_ n2_ n3_ n4_ n5_ n6_ n7_ n8_ n9_; (try clear hb); (try clear hb2); (try clear hk); (try clear hi); have hnb88 := NB491_442.out; have hnc88 := NB442_491.out; have hnb89 := NB491_456.out; have hnc89 := NB456_491.out; have hnb90 := NB491_481.out; have hnc90 := NB481_491.out; have hnb91 := NB491_484.out; have hnc91 := NB484_491.out; have hcz92_0 : w87.cell? ⟨gb491, 0, none⟩ = some (.int .i64 t485) := (blk_cell BK491.out 0).trans rfl; have hcz92_1 : w87.cell? ⟨gb491, 1, none⟩ = some (.string t486) := (blk_cell BK491.out 1).trans rfl; have hfz92_0 := blk_frozen BK491.out 0; have hfz92_1 := blk_frozen BK491.out 1; have hnb93 := NB484_442.out; have hnc93 := NB442_484.out; have hnb94 := NB484_456.out; have hnc94 := NB456_484.out; have hnb95 := NB484_481.out; have hnc95 := NB481_484.out; have hcz96_0 : w87.cell? ⟨gb484, 0, none⟩ = some (.int .i64 x485000_2) := (blk_cell BK484.out 0).trans rfl; have hcz96_1 : w87.cell? ⟨gb484, 1, none⟩ = some (.string x485001_2) := (blk_cell BK484.out 1).trans rfl; have hfz96_0 := blk_frozen BK484.out 0; have hfz96_1 := blk_frozen BK484.out 1))
                      go_meet
                      case rel => exact ⟨_, ((Op.bytesLess t486.toList x485001_2.toList)), (by first | rfl | (simp; done) | (simp [*]; done)), H', ⟨by have := HJ25.out; have := HK2.out; first | omega | exact Nat.le_refl _⟩, ⟨by (with_reducible repeat (first | apply Kd.R_alloc | apply Kd.R_drewN | apply Kd.R_drew)); exact Kd.R_mono HO_3.out (fun _ hk => ⟨hk.1.1.1, ⟨hk.1.2, ⟨hk.1.1.2.2.1, ⟨hk.1.1.2.2.2.1, ⟨hk.1.1.2.2.2.2.1, ⟨hk.1.1.2.2.2.2.2, hk.2⟩⟩⟩⟩⟩⟩)⟩, ⟨by (with_reducible repeat (first | apply Kd.R_alloc | apply Kd.R_drewN | apply Kd.R_drew)); exact Kd.R_mono HO_5.out (fun _ hk => ⟨hk.1.1.1, ⟨hk.1.2, ⟨hk.1.1.2.1, ⟨hk.1.1.2.2.1, ⟨hk.1.1.2.2.2.1, ⟨hk.1.1.2.2.2.2, hk.2⟩⟩⟩⟩⟩⟩)⟩, ⟨by (with_reducible repeat (first | apply Kd.R_alloc | apply Kd.R_drewN | apply Kd.R_drew)); exact Kd.R_mono HO489.out (fun _ hk => ⟨hk.1.1.1.1.1.1.1.2, ⟨hk.1.1.1.1.1.1.2, ⟨hk.1.1.1.1.2, ⟨hk.1.1.1.2, ⟨hk.1.1.2, ⟨hk.1.2, hk.2⟩⟩⟩⟩⟩⟩)⟩, ⟨by (with_reducible repeat (first | refine blk_drewN ?_ _ | refine blk_drew ?_ | refine blk_alloc ?_ _)); exact BK442.out⟩, ⟨by (with_reducible repeat (first | refine blk_drewN ?_ _ | refine blk_drew ?_ | refine blk_alloc ?_ _)); exact BK456.out⟩, ⟨by (with_reducible repeat (first | refine blk_drewN ?_ _ | refine blk_drew ?_ | refine blk_alloc ?_ _)); exact BK481.out⟩, ⟨by (with_reducible repeat (first | refine blk_drewN ?_ _ | refine blk_drew ?_ | refine blk_alloc ?_ _)); exact BK484.out⟩, ⟨by (with_reducible repeat (first | refine blk_drewN ?_ _ | refine blk_drew ?_ | refine blk_alloc ?_ _)); exact BK491.out⟩, ⟨by repeat (first | (with_reducible first | exact HB.out | apply below_alloc | apply pw_below_drewN | apply below_drew1 | refine below_set ?_ GE442.out | refine below_set ?_ GE456.out | refine below_set ?_ GE481.out | refine below_set ?_ GE484.out | refine below_set ?_ GE491.out) | exact HB.out)⟩⟩
                     ·rw [if_neg c85] at H
                      have c85b0 : (t485 == x485000_2) = false := beq_eq_false_iff_ne.mpr c85
                      have c85b1 : (t485 != x485000_2) = true := bne_iff_ne.mpr c85
                      have H' := Aside0.mk H
                      clear H
                      obtain ⟨Ao97, co97, eo97⟩ := Kd.R_slice HO489.out
                      subst eo97
                      go_wp2_with (first | (go_at_call 62; (with_reducible refine (impl_PoolOk.calls k2 _ _ t487 true _ ?side1 ?side2 A81.out).mono ?_); (case side1 => refine (Kd.R_reads' (e := 86) (base := w.heap.size) (ok := fun k_ => ((((((((True ∧ some k_ ≠ (.slice Ao30 t437.length co30 : Value).ownBlock) ∧ some k_ ≠ (.slice Ao43 t443.length co43 : Value).ownBlock) ∧ some k_ ≠ (.slice Ao72 x21_2.length co72 : Value).ownBlock) ∧ k_ ≠ gb442) ∧ k_ ≠ gb456) ∧ k_ ≠ gb481) ∧ k_ ≠ gb484) ∧ k_ ≠ gb491)) (n := t487.length) (c := co97) ?_).2.2; exact (by (with_reducible repeat (first | apply Kd.R_alloc | apply Kd.R_drewN | apply Kd.R_drew)); exact (Kd.R_mono (Kd.R_far (p := ⟨gb491, 1, none⟩) (Kd.R_far (p := ⟨gb491, 0, none⟩) (Kd.R_mono HO489.out (fun k_ hk => (⟨hk, hk.2⟩ : _ ∧ k_ ≠ gb491))) (fun _ hk => hk.2) (.int .i64 t485)) (fun _ hk => hk.2) (.string t486)) (fun _ h_ => h_.1)))); (case side2 => exact (Kd.R_reads' HO489.out).2.1); rintro e w98 ⟨rfl, hb⟩; have n0_ := Aside0.mk (Kd.R_below (by (with_reducible repeat (first | apply Kd.R_alloc | apply Kd.R_drewN | apply Kd.R_drew)); exact (Kd.R_mono (Kd.R_far (p := ⟨gb491, 1, none⟩) (Kd.R_far (p := ⟨gb491, 0, none⟩) (Kd.R_mono HO_3.out (fun k_ hk => (⟨hk, hk.2⟩ : _ ∧ k_ ≠ gb491))) (fun _ hk => hk.2) (.int .i64 t485)) (fun _ hk => hk.2) (.string t486)) (fun _ h_ => h_.1))) hb); have n1_ := Aside0.mk (Kd.R_below (by (with_reducible repeat (first | apply Kd.R_alloc | apply Kd.R_drewN | apply Kd.R_drew)); exact (Kd.R_mono (Kd.R_far (p := ⟨gb491, 1, none⟩) (Kd.R_far (p := ⟨gb491, 0, none⟩) (Kd.R_mono HO_5.out (fun k_ hk => (⟨hk, hk.2⟩ : _ ∧ k_ ≠ gb491))) (fun _ hk => hk.2) (.int .i64 t485)) (fun _ hk => hk.2) (.string t486)) (fun _ h_ => h_.1))) hb); have n2_ := Aside0.mk (Kd.R_below (by (with_reducible repeat (first | apply Kd.R_alloc | apply Kd.R_drewN | apply Kd.R_drew)); exact (Kd.R_mono (Kd.R_far (p := ⟨gb491, 1, none⟩) (Kd.R_far (p := ⟨gb491, 0, none⟩) (Kd.R_mono HO_21.out (fun k_ hk => (⟨hk, hk.2⟩ : _ ∧ k_ ≠ gb491))) (fun _ hk => hk.2) (.int .i64 t485)) (fun _ hk => hk.2) (.string t486)) (fun _ h_ => h_.1))) hb); have n3_ := Aside0.mk (Kd.R_below (by (with_reducible repeat (first | apply Kd.R_alloc | apply Kd.R_drewN | apply Kd.R_drew)); exact (Kd.R_mono (Kd.R_far (p := ⟨gb491, 1, none⟩) (Kd.R_far (p := ⟨gb491, 0, none⟩) (Kd.R_mono HO489.out (fun k_ hk => (⟨hk, hk.2⟩ : _ ∧ k_ ≠ gb491))) (fun _ hk => hk.2) (.int .i64 t485)) (fun _ hk => hk.2) (.string t486)) (fun _ h_ => h_.1))) hb); have n4_ := Aside0.mk (blk_below (g := gb442) (o := .cells #[.int .i64 t440, .string t441] 86 (0, 0)) (by (with_reducible repeat (first | refine blk_drewN ?_ _ | refine blk_drew ?_ | refine blk_alloc ?_ _)); refine blk_far ?_ NB442_491.out _; (with_reducible repeat (first | refine blk_drewN ?_ _ | refine blk_drew ?_ | refine blk_alloc ?_ _)); refine blk_far ?_ NB442_491.out _; (with_reducible repeat (first | refine blk_drewN ?_ _ | refine blk_drew ?_ | refine blk_alloc ?_ _)); exact BK442.out) hb); have n5_ := Aside0.mk (blk_below (g := gb456) (o := .cells #[.int .i64 t450, .string t451] 86 (0, 0)) (by (with_reducible repeat (first | refine blk_drewN ?_ _ | refine blk_drew ?_ | refine blk_alloc ?_ _)); refine blk_far ?_ NB456_491.out _; (with_reducible repeat (first | refine blk_drewN ?_ _ | refine blk_drew ?_ | refine blk_alloc ?_ _)); refine blk_far ?_ NB456_491.out _; (with_reducible repeat (first | refine blk_drewN ?_ _ | refine blk_drew ?_ | refine blk_alloc ?_ _)); exact BK456.out) hb); have n6_ := Aside0.mk (blk_below (g := gb481) (o := .cells #[.int .i64 t475, .string t476] 86 (0, 0)) (by (with_reducible repeat (first | refine blk_drewN ?_ _ | refine blk_drew ?_ | refine blk_alloc ?_ _)); refine blk_far ?_ NB481_491.out _; (with_reducible repeat (first | refine blk_drewN ?_ _ | refine blk_drew ?_ | refine blk_alloc ?_ _)); refine blk_far ?_ NB481_491.out _; (with_reducible repeat (first | refine blk_drewN ?_ _ | refine blk_drew ?_ | refine blk_alloc ?_ _)); exact BK481.out) hb); have n7_ := Aside0.mk (blk_below (g := gb484) (o := .cells #[.int .i64 x485000_2, .string x485001_2] 86 (0, 0)) (by (with_reducible repeat (first | refine blk_drewN ?_ _ | refine blk_drew ?_ | refine blk_alloc ?_ _)); refine blk_far ?_ NB484_491.out _; (with_reducible repeat (first | refine blk_drewN ?_ _ | refine blk_drew ?_ | refine blk_alloc ?_ _)); refine blk_far ?_ NB484_491.out _; (with_reducible repeat (first | refine blk_drewN ?_ _ | refine blk_drew ?_ | refine blk_alloc ?_ _)); exact BK484.out) hb); have n8_ := Aside0.mk (blk_below (g := gb491) (o := .cells #[.int .i64 t485, .string t486] 86 (0, 0)) (by (with_reducible repeat (first | refine blk_drewN ?_ _ | refine blk_drew ?_ | refine blk_alloc ?_ _)); refine blk_put (cs := #[.int .i64 t485, .string (⟨#[]⟩ : ByteArray)]) ?_ 1 _ rfl; (with_reducible repeat (first | refine blk_drewN ?_ _ | refine blk_drew ?_ | refine blk_alloc ?_ _)); refine blk_put (cs := #[.int .i64 0, .string (⟨#[]⟩ : ByteArray)]) ?_ 0 _ rfl; (with_reducible repeat (first | refine blk_drewN ?_ _ | refine blk_drew ?_ | refine blk_alloc ?_ _)); exact BK491.out) hb); have n9_ := Aside0.mk (below_step (by repeat (first | (with_reducible first | exact HB.out | apply below_alloc | apply pw_below_drewN | apply below_drew1 | refine below_set ?_ GE442.out | refine below_set ?_ GE456.out | refine below_set ?_ GE481.out | refine below_set ?_ GE484.out | refine below_set ?_ GE491.out) | exact HB.out)) hb); clear HO_3; clear HO_5; clear HO_21; clear HO489; clear BK442; clear BK456; clear BK481; clear BK484; clear BK491; clear HB; have HO_3 := n0_; have HO_5 := n1_; have HO_21 := n2_; have HO489 := n3_; have BK442 := n4_; have BK456 := n5_; have BK481 := n6_; have BK484 := n7_; have BK491 := n8_; have HB := n9_; clear n0_ n1_ n2_ n3_ n4_ n5_ n6_ n7_ n8_ n9_; (try clear hb); (try clear hb2); (try clear hk); (try clear hi); have hnb99 := NB491_442.out; have hnc99 := NB442_491.out; have hnb100 := NB491_456.out; have hnc100 := NB456_491.out; have hnb101 := NB491_481.out; have hnc101 := NB481_491.out; have hnb102 := NB491_484.out; have hnc102 := NB484_491.out; have hcz103_0 : w98.cell? ⟨gb491, 0, none⟩ = some (.int .i64 t485) := (blk_cell BK491.out 0).trans rfl; have hcz103_1 : w98.cell? ⟨gb491, 1, none⟩ = some (.string t486) := (blk_cell BK491.out 1).trans rfl; have hfz103_0 := blk_frozen BK491.out 0; have hfz103_1 := blk_frozen BK491.out 1; have hnb104 := NB484_442.out; have hnc104 := NB442_484.out; have hnb105 := NB484_456.out; have hnc105 := NB456_484.out; have hnb106 := NB484_481.out; have hnc106 := NB481_484.out; have hcz107_0 : w98.cell? ⟨gb484, 0, none⟩ = some (.int .i64 x485000_2) := (blk_cell BK484.out 0).trans rfl; have hcz107_1 : w98.cell? ⟨gb484, 1, none⟩ = some (.string x485001_2) := (blk_cell BK484.out 1).trans rfl; have hfz107_0 := blk_frozen BK484.out 0; have hfz107_1 := blk_frozen BK484.out 1))
                      go_meet
                      case rel => exact ⟨_, (false), (by first | rfl | (simp; done) | (simp [*]; done)), H', ⟨by have := HJ25.out; have := HK2.out; first | omega | exact Nat.le_refl _⟩, ⟨by (with_reducible repeat (first | apply Kd.R_alloc | apply Kd.R_drewN | apply Kd.R_drew)); exact Kd.R_mono HO_3.out (fun _ hk => ⟨hk.1.1.1, ⟨hk.1.2, ⟨hk.1.1.2.2.1, ⟨hk.1.1.2.2.2.1, ⟨hk.1.1.2.2.2.2.1, ⟨hk.1.1.2.2.2.2.2, hk.2⟩⟩⟩⟩⟩⟩)⟩, ⟨by (with_reducible repeat (first | apply Kd.R_alloc | apply Kd.R_drewN | apply Kd.R_drew)); exact Kd.R_mono HO_5.out (fun _ hk => ⟨hk.1.1.1, ⟨hk.1.2, ⟨hk.1.1.2.1, ⟨hk.1.1.2.2.1, ⟨hk.1.1.2.2.2.1, ⟨hk.1.1.2.2.2.2, hk.2⟩⟩⟩⟩⟩⟩)⟩, ⟨by (with_reducible repeat (first | apply Kd.R_alloc | apply Kd.R_drewN | apply Kd.R_drew)); exact Kd.R_mono HO489.out (fun _ hk => ⟨hk.1.1.1.1.1.1.1.2, ⟨hk.1.1.1.1.1.1.2, ⟨hk.1.1.1.1.2, ⟨hk.1.1.1.2, ⟨hk.1.1.2, ⟨hk.1.2, hk.2⟩⟩⟩⟩⟩⟩)⟩, ⟨by (with_reducible repeat (first | refine blk_drewN ?_ _ | refine blk_drew ?_ | refine blk_alloc ?_ _)); exact BK442.out⟩, ⟨by (with_reducible repeat (first | refine blk_drewN ?_ _ | refine blk_drew ?_ | refine blk_alloc ?_ _)); exact BK456.out⟩, ⟨by (with_reducible repeat (first | refine blk_drewN ?_ _ | refine blk_drew ?_ | refine blk_alloc ?_ _)); exact BK481.out⟩, ⟨by (with_reducible repeat (first | refine blk_drewN ?_ _ | refine blk_drew ?_ | refine blk_alloc ?_ _)); exact BK484.out⟩, ⟨by (with_reducible repeat (first | refine blk_drewN ?_ _ | refine blk_drew ?_ | refine blk_alloc ?_ _)); exact BK491.out⟩, ⟨by repeat (first | (with_reducible first | exact HB.out | apply below_alloc | apply pw_below_drewN | apply below_drew1 | refine below_set ?_ GE442.out | refine below_set ?_ GE456.out | refine below_set ?_ GE481.out | refine below_set ?_ GE484.out | refine below_set ?_ GE491.out) | exact HB.out)⟩⟩
                   ·rw [if_neg c83] at H
                    exact absurd H (by simp)
                  ·replace c82 := Bool.eq_false_iff.mpr c82
                   subst c82
                   have H1 : (none) = some r := by rw [if_neg (show ¬ (false = true) by decide)] at H; exact H
                   clear H
                   have H := H1
                   clear H1
                   exact absurd H (by simp)
                 ·replace c80 := Bool.eq_false_iff.mpr c80
                  subst c80
                  have H1 : (none) = some r := by rw [if_neg (show ¬ (false = true) by decide)] at H; exact H
                  clear H
                  have H := H1
                  clear H1
                  exact absurd H (by simp)
                case rest =>
                 clear HC71
                 try clear c1
                 try clear c2
                 try clear p2
                 try clear c3
                 try clear c4
                 try clear c5
                 try clear c6
                 try clear p6
                 try clear c7
                 try clear c8
                 try clear c9
                 try clear c10
                 try clear c11
                 try clear c12
                 try clear c12b0
                 try clear c12b1
                 try clear c12b2
                 try clear c14
                 try clear c17
                 try clear c17b0
                 try clear c17b1
                 try clear c17b2
                 try clear c20
                 try clear c22
                 try clear c22b0
                 try clear c22b1
                 try clear c22b2
                 try clear c23
                 try clear c23b0
                 try clear c25
                 try clear c36
                 try clear c52
                 try clear c53
                 try clear c58
                 try clear c60
                 try clear c62
                 try clear c63
                 try clear p64
                 try clear c65
                 try clear c66
                 try clear c67
                 try clear c69
                 try clear c69b0
                 try clear c75
                 try clear c76
                 try clear c77
                 try clear c78
                 try clear c80
                 try clear c82
                 try clear c83
                 try clear c83b0
                 try clear c83b1
                 try clear c84
                 try clear c84b0
                 try clear c85
                 try clear c85b0
                 try clear c85b1
                 try clear c88
                 try clear c89
                 try clear c90
                 try clear c91
                 try clear c93
                 try clear c94
                 try clear c95
                 try clear c99
                 try clear c100
                 try clear c101
                 try clear c102
                 try clear c104
                 try clear c105
                 try clear c106
                 try clear hcz103_0
                 try clear hcz103_1
                 try clear hcz107_0
                 try clear hcz107_1
                 try clear hcz29_0
                 try clear hcz29_1
                 try clear hcz37_0
                 try clear hcz37_1
                 try clear hcz41_0
                 try clear hcz41_1
                 try clear hcz54_0
                 try clear hcz54_1
                 try clear hcz55_0
                 try clear hcz55_1
                 try clear hcz68_0
                 try clear hcz68_1
                 try clear hcz79_0
                 try clear hcz79_1
                 try clear hcz92_0
                 try clear hcz92_1
                 try clear hcz96_0
                 try clear hcz96_1
                 try clear hfz103_0
                 try clear hfz103_1
                 try clear hfz107_0
                 try clear hfz107_1
                 try clear hfz29_0
                 try clear hfz29_1
                 try clear hfz37_0
                 try clear hfz37_1
                 try clear hfz41_0
                 try clear hfz41_1
                 try clear hfz54_0
                 try clear hfz54_1
                 try clear hfz55_0
                 try clear hfz55_1
                 try clear hfz68_0
                 try clear hfz68_1
                 try clear hfz79_0
                 try clear hfz79_1
                 try clear hfz92_0
                 try clear hfz92_1
                 try clear hfz96_0
                 try clear hfz96_1
                 try clear p2
                 try clear p6
                 try clear p64
                 obtain ⟨kq, x175_70, rfl, HA, HJ70, HO_3, HO_5, HO_24, BK442, BK456, BK481, BK484, BK491, HB⟩ := hcut
                 cases kq with
                 | zero => exact absurd HA.out (by simp [laws_FnPool.j2])
                 | succ kj70 =>
                  have H := HA.out
                  clear HA
                  simp only [laws_FnPool.j2] at H
                  by_cases c108 : x175_70 = true
                  ·subst c108
                   have H1 : (none) = some r := by rw [if_pos rfl] at H; exact H
                   clear H
                   have H := H1
                   clear H1
                   exact absurd H (by simp)
                  ·replace c108 := Bool.eq_false_iff.mpr c108
                   subst c108
                   have H1 : (if (t485 == t440 && (t486.toList == t441.toList)) = true then (laws_FnPool.l0 kj70 t437 t443 (wrap64 (x20_2 + 1)) t487 (wrap64 (x22_2 + 1)) t440 t441 t485 t486) else (laws_FnPool.l0 kj70 t437 t443 x20_2 t487 (wrap64 (x22_2 + 1)) t440 t441 t485 t486)) = some r := by rw [if_neg (show ¬ (false = true) by decide)] at H; exact H
                   clear H
                   have H := H1
                   clear H1
                   by_cases c109 : (t485 == t440 && (t486.toList == t441.toList)) = true
                   ·rw [if_pos c109] at H
                    have c109b0 : (t485 == t440 && (t486.toList == t441.toList)) = true := c109
                    (try (have c109b1 : decide (t485 = t440 && (t486.toList == t441.toList)) = true := by simpa using c109))
                    (try (have c109b2 : (t485 == t440 && (t486.toList == t441.toList)) = true := by simpa using c109))
                    clear c109
                    have H' := Aside0.mk H
                    clear H
                    have hnb110 := NB491_442.out
                    have hnc110 := NB442_491.out
                    have hnb111 := NB491_456.out
                    have hnc111 := NB456_491.out
                    have hnb112 := NB491_481.out
                    have hnc112 := NB481_491.out
                    have hnb113 := NB491_484.out
                    have hnc113 := NB484_491.out
                    have hcz114_0 : wc.cell? ⟨gb491, 0, none⟩ = some (.int .i64 t485) := (blk_cell BK491.out 0).trans rfl
                    have hcz114_1 : wc.cell? ⟨gb491, 1, none⟩ = some (.string t486) := (blk_cell BK491.out 1).trans rfl
                    have hfz114_0 := blk_frozen BK491.out 0
                    have hfz114_1 := blk_frozen BK491.out 1
                    have hnb115 := NB442_456.out
                    have hnc115 := NB456_442.out
                    have hnb116 := NB442_481.out
                    have hnc116 := NB481_442.out
                    have hnb117 := NB442_484.out
                    have hnc117 := NB484_442.out
                    have hcz118_0 : wc.cell? ⟨gb442, 0, none⟩ = some (.int .i64 t440) := (blk_cell BK442.out 0).trans rfl
                    have hcz118_1 : wc.cell? ⟨gb442, 1, none⟩ = some (.string t441) := (blk_cell BK442.out 1).trans rfl
                    have hfz118_0 := blk_frozen BK442.out 0
                    have hfz118_1 := blk_frozen BK442.out 1
                    have hnb119 := NB484_456.out
                    have hnc119 := NB456_484.out
                    have hnb120 := NB484_481.out
                    have hnc120 := NB481_484.out
                    have hcz121_0 : wc.cell? ⟨gb484, 0, none⟩ = some (.int .i64 x485000_2) := (blk_cell BK484.out 0).trans rfl
                    have hcz121_1 : wc.cell? ⟨gb484, 1, none⟩ = some (.string x485001_2) := (blk_cell BK484.out 1).trans rfl
                    have hfz121_0 := blk_frozen BK484.out 0
                    have hfz121_1 := blk_frozen BK484.out 1
                    go_wp2
                    repeat (go_quiet (fail); try go_wp2)
                    go_roundg kj70
                    case measure => have := HJ25.out; have := HK2.out; have := HJ70.out; omega
                    case rel => exact ⟨(wrap64 (x20_2 + 1)), (t487), (wrap64 (x22_2 + 1)), (t485), (t486), (by first | rfl | (simp; done) | (simp [*]; done)), (by first | rfl | (simp; done) | (simp [*]; done)), H', ⟨by have := HJ25.out; have := HK2.out; have := HJ70.out; omega⟩, ⟨by (with_reducible repeat (first | apply Kd.R_alloc | apply Kd.R_drewN | apply Kd.R_drew)); exact Kd.R_mono (Kd.R_far (p := ⟨gb484, 1, none⟩) (Kd.R_far (p := ⟨gb484, 0, none⟩) (Kd.R_mono HO_3.out (fun k_ hk => (⟨hk, hk.2.2.2.2.2.1⟩ : _ ∧ k_ ≠ gb484))) (fun _ hk => hk.2) (.int .i64 t485)) (fun _ hk => hk.2) (.string t486)) (fun _ hk => by first | exact  ⟨hk.1.1, ⟨hk.1.2.1, ⟨hk.1.2.2.1, ⟨hk.1.2.2.2.1, ⟨hk.1.2.2.2.2.1, hk.1.2.2.2.2.2.1⟩⟩⟩⟩⟩ | simp_all)⟩, ⟨by (with_reducible repeat (first | apply Kd.R_alloc | apply Kd.R_drewN | apply Kd.R_drew)); exact Kd.R_mono (Kd.R_far (p := ⟨gb484, 1, none⟩) (Kd.R_far (p := ⟨gb484, 0, none⟩) (Kd.R_mono HO_5.out (fun k_ hk => (⟨hk, hk.2.2.2.2.2.1⟩ : _ ∧ k_ ≠ gb484))) (fun _ hk => hk.2) (.int .i64 t485)) (fun _ hk => hk.2) (.string t486)) (fun _ hk => by first | exact  ⟨hk.1.1, ⟨hk.1.2.1, ⟨hk.1.2.2.1, ⟨hk.1.2.2.2.1, ⟨hk.1.2.2.2.2.1, hk.1.2.2.2.2.2.1⟩⟩⟩⟩⟩ | simp_all)⟩, ⟨by (with_reducible repeat (first | apply Kd.R_alloc | apply Kd.R_drewN | apply Kd.R_drew)); exact Kd.R_mono (Kd.R_far (p := ⟨gb484, 1, none⟩) (Kd.R_far (p := ⟨gb484, 0, none⟩) (Kd.R_mono HO_24.out (fun k_ hk => (⟨hk, hk.2.2.2.2.2.1⟩ : _ ∧ k_ ≠ gb484))) (fun _ hk => hk.2) (.int .i64 t485)) (fun _ hk => hk.2) (.string t486)) (fun _ hk => by first | exact  ⟨hk.1.1, ⟨hk.1.2.1, ⟨hk.1.2.2.1, ⟨hk.1.2.2.2.1, ⟨hk.1.2.2.2.2.1, hk.1.2.2.2.2.2.1⟩⟩⟩⟩⟩ | simp_all)⟩, ⟨by (with_reducible repeat (first | refine blk_drewN ?_ _ | refine blk_drew ?_ | refine blk_alloc ?_ _)); refine blk_far ?_ NB442_484.out _; (with_reducible repeat (first | refine blk_drewN ?_ _ | refine blk_drew ?_ | refine blk_alloc ?_ _)); refine blk_far ?_ NB442_484.out _; (with_reducible repeat (first | refine blk_drewN ?_ _ | refine blk_drew ?_ | refine blk_alloc ?_ _)); exact BK442.out⟩, ⟨by (with_reducible repeat (first | refine blk_drewN ?_ _ | refine blk_drew ?_ | refine blk_alloc ?_ _)); refine blk_far ?_ NB456_484.out _; (with_reducible repeat (first | refine blk_drewN ?_ _ | refine blk_drew ?_ | refine blk_alloc ?_ _)); refine blk_far ?_ NB456_484.out _; (with_reducible repeat (first | refine blk_drewN ?_ _ | refine blk_drew ?_ | refine blk_alloc ?_ _)); exact BK456.out⟩, ⟨by (with_reducible repeat (first | refine blk_drewN ?_ _ | refine blk_drew ?_ | refine blk_alloc ?_ _)); refine blk_far ?_ NB481_484.out _; (with_reducible repeat (first | refine blk_drewN ?_ _ | refine blk_drew ?_ | refine blk_alloc ?_ _)); refine blk_far ?_ NB481_484.out _; (with_reducible repeat (first | refine blk_drewN ?_ _ | refine blk_drew ?_ | refine blk_alloc ?_ _)); exact BK481.out⟩, ⟨by (with_reducible repeat (first | refine blk_drewN ?_ _ | refine blk_drew ?_ | refine blk_alloc ?_ _)); refine blk_put (cs := #[.int .i64 t485, .string x485001_2]) ?_ 1 _ rfl; (with_reducible repeat (first | refine blk_drewN ?_ _ | refine blk_drew ?_ | refine blk_alloc ?_ _)); refine blk_put (cs := #[.int .i64 x485000_2, .string x485001_2]) ?_ 0 _ rfl; (with_reducible repeat (first | refine blk_drewN ?_ _ | refine blk_drew ?_ | refine blk_alloc ?_ _)); exact BK484.out⟩, ⟨by repeat (first | (with_reducible first | exact HB.out | apply below_alloc | apply pw_below_drewN | apply below_drew1 | refine below_set ?_ GE442.out | refine below_set ?_ GE456.out | refine below_set ?_ GE481.out | refine below_set ?_ GE484.out | refine below_set ?_ GE491.out) | exact HB.out)⟩⟩
                   ·rw [if_neg c109] at H
                    have c109b0 : (t485 == t440 && (t486.toList == t441.toList)) = false := by simpa using c109
                    (try (have c109b1 : decide (t485 = t440 && (t486.toList == t441.toList)) = false := by simpa using c109))
                    (try (have c109b2 : (t485 == t440 && (t486.toList == t441.toList)) = false := by simpa using c109))
                    (try (have c109b3 : ¬ (t485 = t440 && (t486.toList == t441.toList)) := by simpa using c109))
                    clear c109
                    have H' := Aside0.mk H
                    clear H
                    have hnb122 := NB491_442.out
                    have hnc122 := NB442_491.out
                    have hnb123 := NB491_456.out
                    have hnc123 := NB456_491.out
                    have hnb124 := NB491_481.out
                    have hnc124 := NB481_491.out
                    have hnb125 := NB491_484.out
                    have hnc125 := NB484_491.out
                    have hcz126_0 : wc.cell? ⟨gb491, 0, none⟩ = some (.int .i64 t485) := (blk_cell BK491.out 0).trans rfl
                    have hcz126_1 : wc.cell? ⟨gb491, 1, none⟩ = some (.string t486) := (blk_cell BK491.out 1).trans rfl
                    have hfz126_0 := blk_frozen BK491.out 0
                    have hfz126_1 := blk_frozen BK491.out 1
                    have hnb127 := NB442_456.out
                    have hnc127 := NB456_442.out
                    have hnb128 := NB442_481.out
                    have hnc128 := NB481_442.out
                    have hnb129 := NB442_484.out
                    have hnc129 := NB484_442.out
                    have hcz130_0 : wc.cell? ⟨gb442, 0, none⟩ = some (.int .i64 t440) := (blk_cell BK442.out 0).trans rfl
                    have hcz130_1 : wc.cell? ⟨gb442, 1, none⟩ = some (.string t441) := (blk_cell BK442.out 1).trans rfl
                    have hfz130_0 := blk_frozen BK442.out 0
                    have hfz130_1 := blk_frozen BK442.out 1
                    have hnb131 := NB484_456.out
                    have hnc131 := NB456_484.out
                    have hnb132 := NB484_481.out
                    have hnc132 := NB481_484.out
                    have hcz133_0 : wc.cell? ⟨gb484, 0, none⟩ = some (.int .i64 x485000_2) := (blk_cell BK484.out 0).trans rfl
                    have hcz133_1 : wc.cell? ⟨gb484, 1, none⟩ = some (.string x485001_2) := (blk_cell BK484.out 1).trans rfl
                    have hfz133_0 := blk_frozen BK484.out 0
                    have hfz133_1 := blk_frozen BK484.out 1
                    go_wp2
                    repeat (go_quiet (fail); try go_wp2)
                    go_roundg kj70
                    case measure => have := HJ25.out; have := HK2.out; have := HJ70.out; omega
                    case rel => exact ⟨(x20_2), (t487), (wrap64 (x22_2 + 1)), (t485), (t486), (by first | rfl | (simp; done) | (simp [*]; done)), (by first | rfl | (simp; done) | (simp [*]; done)), H', ⟨by have := HJ25.out; have := HK2.out; have := HJ70.out; omega⟩, ⟨by (with_reducible repeat (first | apply Kd.R_alloc | apply Kd.R_drewN | apply Kd.R_drew)); exact Kd.R_mono (Kd.R_far (p := ⟨gb484, 1, none⟩) (Kd.R_far (p := ⟨gb484, 0, none⟩) (Kd.R_mono HO_3.out (fun k_ hk => (⟨hk, hk.2.2.2.2.2.1⟩ : _ ∧ k_ ≠ gb484))) (fun _ hk => hk.2) (.int .i64 t485)) (fun _ hk => hk.2) (.string t486)) (fun _ hk => by first | exact  ⟨hk.1.1, ⟨hk.1.2.1, ⟨hk.1.2.2.1, ⟨hk.1.2.2.2.1, ⟨hk.1.2.2.2.2.1, hk.1.2.2.2.2.2.1⟩⟩⟩⟩⟩ | simp_all)⟩, ⟨by (with_reducible repeat (first | apply Kd.R_alloc | apply Kd.R_drewN | apply Kd.R_drew)); exact Kd.R_mono (Kd.R_far (p := ⟨gb484, 1, none⟩) (Kd.R_far (p := ⟨gb484, 0, none⟩) (Kd.R_mono HO_5.out (fun k_ hk => (⟨hk, hk.2.2.2.2.2.1⟩ : _ ∧ k_ ≠ gb484))) (fun _ hk => hk.2) (.int .i64 t485)) (fun _ hk => hk.2) (.string t486)) (fun _ hk => by first | exact  ⟨hk.1.1, ⟨hk.1.2.1, ⟨hk.1.2.2.1, ⟨hk.1.2.2.2.1, ⟨hk.1.2.2.2.2.1, hk.1.2.2.2.2.2.1⟩⟩⟩⟩⟩ | simp_all)⟩, ⟨by (with_reducible repeat (first | apply Kd.R_alloc | apply Kd.R_drewN | apply Kd.R_drew)); exact Kd.R_mono (Kd.R_far (p := ⟨gb484, 1, none⟩) (Kd.R_far (p := ⟨gb484, 0, none⟩) (Kd.R_mono HO_24.out (fun k_ hk => (⟨hk, hk.2.2.2.2.2.1⟩ : _ ∧ k_ ≠ gb484))) (fun _ hk => hk.2) (.int .i64 t485)) (fun _ hk => hk.2) (.string t486)) (fun _ hk => by first | exact  ⟨hk.1.1, ⟨hk.1.2.1, ⟨hk.1.2.2.1, ⟨hk.1.2.2.2.1, ⟨hk.1.2.2.2.2.1, hk.1.2.2.2.2.2.1⟩⟩⟩⟩⟩ | simp_all)⟩, ⟨by (with_reducible repeat (first | refine blk_drewN ?_ _ | refine blk_drew ?_ | refine blk_alloc ?_ _)); refine blk_far ?_ NB442_484.out _; (with_reducible repeat (first | refine blk_drewN ?_ _ | refine blk_drew ?_ | refine blk_alloc ?_ _)); refine blk_far ?_ NB442_484.out _; (with_reducible repeat (first | refine blk_drewN ?_ _ | refine blk_drew ?_ | refine blk_alloc ?_ _)); exact BK442.out⟩, ⟨by (with_reducible repeat (first | refine blk_drewN ?_ _ | refine blk_drew ?_ | refine blk_alloc ?_ _)); refine blk_far ?_ NB456_484.out _; (with_reducible repeat (first | refine blk_drewN ?_ _ | refine blk_drew ?_ | refine blk_alloc ?_ _)); refine blk_far ?_ NB456_484.out _; (with_reducible repeat (first | refine blk_drewN ?_ _ | refine blk_drew ?_ | refine blk_alloc ?_ _)); exact BK456.out⟩, ⟨by (with_reducible repeat (first | refine blk_drewN ?_ _ | refine blk_drew ?_ | refine blk_alloc ?_ _)); refine blk_far ?_ NB481_484.out _; (with_reducible repeat (first | refine blk_drewN ?_ _ | refine blk_drew ?_ | refine blk_alloc ?_ _)); refine blk_far ?_ NB481_484.out _; (with_reducible repeat (first | refine blk_drewN ?_ _ | refine blk_drew ?_ | refine blk_alloc ?_ _)); exact BK481.out⟩, ⟨by (with_reducible repeat (first | refine blk_drewN ?_ _ | refine blk_drew ?_ | refine blk_alloc ?_ _)); refine blk_put (cs := #[.int .i64 t485, .string x485001_2]) ?_ 1 _ rfl; (with_reducible repeat (first | refine blk_drewN ?_ _ | refine blk_drew ?_ | refine blk_alloc ?_ _)); refine blk_put (cs := #[.int .i64 x485000_2, .string x485001_2]) ?_ 0 _ rfl; (with_reducible repeat (first | refine blk_drewN ?_ _ | refine blk_drew ?_ | refine blk_alloc ?_ _)); exact BK484.out⟩, ⟨by repeat (first | (with_reducible first | exact HB.out | apply below_alloc | apply pw_below_drewN | apply below_drew1 | refine below_set ?_ GE442.out | refine below_set ?_ GE456.out | refine below_set ?_ GE481.out | refine below_set ?_ GE484.out | refine below_set ?_ GE491.out) | exact HB.out)⟩⟩
               ·rw [if_neg c69] at H
                have c69b0 : decide (x22_2 < (t443.length : Int)) = false := decide_eq_false c69
                clear c69
                have H' := Aside0.mk H
                clear H
                go_wp2
                repeat (go_quiet (fail); try go_wp2)
                go_loopg [26, 27] k2 (fun kq v26 v27 w' => ∃ (x26_3 : Int) (x27_3 : Int), v26 = .int .i64 x26_3 ∧ v27 = .int .i64 x27_3 ∧ Aside0 (laws_FnPool.l1 kq t437 x20_2 x21_2 x26_3 x27_3 t440 t441 = some r) ∧ Aside0 (kq ≤ k2) ∧ Aside0 (Kd.R k86 86 w' w.heap.size (fun k_ => some k_ ≠ (u21 : Value).ownBlock ∧ k_ ≠ gb442 ∧ k_ ≠ gb456 ∧ k_ ≠ gb481 ∧ k_ ≠ gb484) (.slice Ao30 t437.length co30) t437) ∧ Aside0 (Kd.R k86 86 w' w.heap.size (fun k_ => some k_ ≠ ((.slice Ao30 t437.length co30) : Value).ownBlock ∧ k_ ≠ gb442 ∧ k_ ≠ gb456 ∧ k_ ≠ gb481 ∧ k_ ≠ gb484) u21 x21_2) ∧ Aside0 (w'.heap[gb442]? = some (.cells #[.int .i64 t440, .string t441] 86 (0, 0))) ∧ Aside0 (w'.heap[gb456]? = some (.cells #[.int .i64 t450, .string t451] 86 (0, 0))) ∧ Aside0 (w'.heap[gb481]? = some (.cells #[.int .i64 t475, .string t476] 86 (0, 0))) ∧ Aside0 (w'.heap[gb484]? = some (.cells #[.int .i64 x485000_2, .string x485001_2] 86 (0, 0))) ∧ Aside0 (Below w.heap.size w w'))
                case atStart => exact ⟨(0), (0), (by first | rfl | (simp; done) | (simp [*]; done)), (by first | rfl | (simp; done) | (simp [*]; done)), H', ⟨Nat.le_refl _⟩, ⟨by (with_reducible repeat (first | apply Kd.R_alloc | apply Kd.R_drewN | apply Kd.R_drew)); exact Kd.R_mono HO_3.out (fun _ hk => ⟨hk.2.1, ⟨hk.2.2.1, ⟨hk.2.2.2.1, ⟨hk.2.2.2.2.1, hk.2.2.2.2.2⟩⟩⟩⟩)⟩, ⟨by (with_reducible repeat (first | apply Kd.R_alloc | apply Kd.R_drewN | apply Kd.R_drew)); exact HO_21.out⟩, ⟨by (with_reducible repeat (first | refine blk_drewN ?_ _ | refine blk_drew ?_ | refine blk_alloc ?_ _)); exact BK442.out⟩, ⟨by (with_reducible repeat (first | refine blk_drewN ?_ _ | refine blk_drew ?_ | refine blk_alloc ?_ _)); exact BK456.out⟩, ⟨by (with_reducible repeat (first | refine blk_drewN ?_ _ | refine blk_drew ?_ | refine blk_alloc ?_ _)); exact BK481.out⟩, ⟨by (with_reducible repeat (first | refine blk_drewN ?_ _ | refine blk_drew ?_ | refine blk_alloc ?_ _)); exact BK484.out⟩, ⟨by repeat (first | (with_reducible first | exact HB.out | apply below_alloc | apply pw_below_drewN | apply below_drew1 | refine below_set ?_ GE442.out | refine below_set ?_ GE456.out | refine below_set ?_ GE481.out | refine below_set ?_ GE484.out) | exact HB.out)⟩⟩
                case round =>
                 clear H'
                 try clear c1
                 try clear c2
                 try clear p2
                 try clear c3
                 try clear c4
                 try clear c5
                 try clear c6
                 try clear p6
                 try clear c7
                 try clear c8
                 try clear c9
                 try clear c10
                 try clear c11
                 try clear c12
                 try clear c12b0
                 try clear c12b1
                 try clear c12b2
                 try clear c13
                 try clear c14
                 try clear c17
                 try clear c17b0
                 try clear c17b1
                 try clear c17b2
                 try clear c20
                 try clear c22
                 try clear c22b0
                 try clear c22b1
                 try clear c22b2
                 try clear c23
                 try clear c23b0
                 try clear c25
                 try clear c36
                 try clear c52
                 try clear c53
                 try clear c58
                 try clear c60
                 try clear c62
                 try clear c63
                 try clear p64
                 try clear c65
                 try clear c66
                 try clear c67
                 try clear c69
                 try clear c69b0
                 try clear c75
                 try clear c76
                 try clear c77
                 try clear c78
                 try clear c80
                 try clear c82
                 try clear c83
                 try clear c83b0
                 try clear c83b1
                 try clear c84
                 try clear c84b0
                 try clear c85
                 try clear c85b0
                 try clear c85b1
                 try clear c88
                 try clear c89
                 try clear c90
                 try clear c91
                 try clear c93
                 try clear c94
                 try clear c95
                 try clear c99
                 try clear c100
                 try clear c101
                 try clear c102
                 try clear c104
                 try clear c105
                 try clear c106
                 try clear c108
                 try clear c109
                 try clear c109b0
                 try clear c109b1
                 try clear c109b2
                 try clear c110
                 try clear c111
                 try clear c112
                 try clear c113
                 try clear c115
                 try clear c116
                 try clear c117
                 try clear c119
                 try clear c120
                 try clear c122
                 try clear c123
                 try clear c124
                 try clear c125
                 try clear c127
                 try clear c128
                 try clear c129
                 try clear c131
                 try clear c132
                 try clear hcz103_0
                 try clear hcz103_1
                 try clear hcz107_0
                 try clear hcz107_1
                 try clear hcz114_0
                 try clear hcz114_1
                 try clear hcz118_0
                 try clear hcz118_1
                 try clear hcz121_0
                 try clear hcz121_1
                 try clear hcz126_0
                 try clear hcz126_1
                 try clear hcz130_0
                 try clear hcz130_1
                 try clear hcz133_0
                 try clear hcz133_1
                 try clear hcz29_0
                 try clear hcz29_1
                 try clear hcz37_0
                 try clear hcz37_1
                 try clear hcz41_0
                 try clear hcz41_1
                 try clear hcz54_0
                 try clear hcz54_1
                 try clear hcz55_0
                 try clear hcz55_1
                 try clear hcz68_0
                 try clear hcz68_1
                 try clear hcz79_0
                 try clear hcz79_1
                 try clear hcz92_0
                 try clear hcz92_1
                 try clear hcz96_0
                 try clear hcz96_1
                 try clear hfz103_0
                 try clear hfz103_1
                 try clear hfz107_0
                 try clear hfz107_1
                 try clear hfz114_0
                 try clear hfz114_1
                 try clear hfz118_0
                 try clear hfz118_1
                 try clear hfz121_0
                 try clear hfz121_1
                 try clear hfz126_0
                 try clear hfz126_1
                 try clear hfz130_0
                 try clear hfz130_1
                 try clear hfz133_0
                 try clear hfz133_1
                 try clear hfz29_0
                 try clear hfz29_1
                 try clear hfz37_0
                 try clear hfz37_1
                 try clear hfz41_0
                 try clear hfz41_1
                 try clear hfz54_0
                 try clear hfz54_1
                 try clear hfz55_0
                 try clear hfz55_1
                 try clear hfz68_0
                 try clear hfz68_1
                 try clear hfz79_0
                 try clear hfz79_1
                 try clear hfz92_0
                 try clear hfz92_1
                 try clear hfz96_0
                 try clear hfz96_1
                 try clear p2
                 try clear p6
                 try clear p64
                 obtain ⟨x26_3, x27_3, rfl, rfl, HA, HK3, HO_3, HO_21, BK442, BK456, BK481, BK484, HB⟩ := hrel
                 cases gk with
                 | zero => exact absurd HA.out (by simp [laws_FnPool.l1])
                 | succ k3 =>
                  have H := HA.out
                  clear HA
                  simp only [laws_FnPool.l1] at H
                  by_cases c134 : x27_3 < (t437.length : Int)
                  ·rw [if_pos c134] at H
                   have c134b0 : decide (x27_3 < (t437.length : Int)) = true := decide_eq_true c134
                   clear c134
                   by_cases c135 : 0 ≤ x27_3
                   ·rw [if_pos c135] at H
                    have c135b0 : decide (0 ≤ x27_3) = true := decide_eq_true c135
                    clear c135
                    by_cases c136 : (((rd_T86 t437 x27_3).f0) == t440 && ((((rd_T86 t437 x27_3).f1).toList) == t441.toList)) = true
                    ·rw [if_pos c136] at H
                     have c136b0 : (((rd_T86 t437 x27_3).f0) == t440 && ((((rd_T86 t437 x27_3).f1).toList) == t441.toList)) = true := c136
                     (try (have c136b1 : decide (((rd_T86 t437 x27_3).f0) = t440 && ((((rd_T86 t437 x27_3).f1).toList) == t441.toList)) = true := by simpa using c136))
                     (try (have c136b2 : (((rd_T86 t437 x27_3).f0) == t440 && ((((rd_T86 t437 x27_3).f1).toList) == t441.toList)) = true := by simpa using c136))
                     clear c136
                     have H' := Aside0.mk H
                     clear H
                     have p493 : 0 ≤ (x27_3 : Int) := of_decide_eq_true (by first | (with_reducible assumption) | assumption)
                     have q493 : x27_3 < (t437.length : Int) := of_decide_eq_true (by first | (with_reducible assumption) | assumption)
                     obtain ⟨ad493, e493, hx493_0, hx493_1⟩ := at_T86 (Kd.R_reads' HO_3.out).2.2 x27_3 p493 q493
                     cases e493
                     replace p493 := eq_true p493
                     replace q493 := eq_true q493
                     have hnb137 := NB442_456.out
                     have hnc137 := NB456_442.out
                     have hnb138 := NB442_481.out
                     have hnc138 := NB481_442.out
                     have hnb139 := NB442_484.out
                     have hnc139 := NB484_442.out
                     have hcz140_0 : wr.cell? ⟨gb442, 0, none⟩ = some (.int .i64 t440) := (blk_cell BK442.out 0).trans rfl
                     have hcz140_1 : wr.cell? ⟨gb442, 1, none⟩ = some (.string t441) := (blk_cell BK442.out 1).trans rfl
                     have hfz140_0 := blk_frozen BK442.out 0
                     have hfz140_1 := blk_frozen BK442.out 1
                     go_wp2
                     repeat (go_quiet (fail); try go_wp2)
                     go_roundg k3
                     case measure => have := HJ25.out; have := HK2.out; have := HK3.out; omega
                     case rel => exact ⟨(wrap64 (x26_3 + 1)), (wrap64 (x27_3 + 1)), (by first | rfl | (simp; done) | (simp [*]; done)), (by first | rfl | (simp; done) | (simp [*]; done)), H', ⟨by have := HJ25.out; have := HK2.out; have := HK3.out; omega⟩, ⟨by (with_reducible repeat (first | apply Kd.R_alloc | apply Kd.R_drewN | apply Kd.R_drew)); exact HO_3.out⟩, ⟨by (with_reducible repeat (first | apply Kd.R_alloc | apply Kd.R_drewN | apply Kd.R_drew)); exact HO_21.out⟩, ⟨by (with_reducible repeat (first | refine blk_drewN ?_ _ | refine blk_drew ?_ | refine blk_alloc ?_ _)); exact BK442.out⟩, ⟨by (with_reducible repeat (first | refine blk_drewN ?_ _ | refine blk_drew ?_ | refine blk_alloc ?_ _)); exact BK456.out⟩, ⟨by (with_reducible repeat (first | refine blk_drewN ?_ _ | refine blk_drew ?_ | refine blk_alloc ?_ _)); exact BK481.out⟩, ⟨by (with_reducible repeat (first | refine blk_drewN ?_ _ | refine blk_drew ?_ | refine blk_alloc ?_ _)); exact BK484.out⟩, ⟨by repeat (first | (with_reducible first | exact HB.out | apply below_alloc | apply pw_below_drewN | apply below_drew1 | refine below_set ?_ GE442.out | refine below_set ?_ GE456.out | refine below_set ?_ GE481.out | refine below_set ?_ GE484.out) | exact HB.out)⟩⟩
                    ·rw [if_neg c136] at H
                     have c136b0 : (((rd_T86 t437 x27_3).f0) == t440 && ((((rd_T86 t437 x27_3).f1).toList) == t441.toList)) = false := by simpa using c136
                     (try (have c136b1 : decide (((rd_T86 t437 x27_3).f0) = t440 && ((((rd_T86 t437 x27_3).f1).toList) == t441.toList)) = false := by simpa using c136))
                     (try (have c136b2 : (((rd_T86 t437 x27_3).f0) == t440 && ((((rd_T86 t437 x27_3).f1).toList) == t441.toList)) = false := by simpa using c136))
                     (try (have c136b3 : ¬ (((rd_T86 t437 x27_3).f0) = t440 && ((((rd_T86 t437 x27_3).f1).toList) == t441.toList)) := by simpa using c136))
                     clear c136
                     have H' := Aside0.mk H
                     clear H
                     have p493 : 0 ≤ (x27_3 : Int) := of_decide_eq_true (by first | (with_reducible assumption) | assumption)
                     have q493 : x27_3 < (t437.length : Int) := of_decide_eq_true (by first | (with_reducible assumption) | assumption)
                     obtain ⟨ad493, e493, hx493_0, hx493_1⟩ := at_T86 (Kd.R_reads' HO_3.out).2.2 x27_3 p493 q493
                     cases e493
                     replace p493 := eq_true p493
                     replace q493 := eq_true q493
                     have hnb141 := NB442_456.out
                     have hnc141 := NB456_442.out
                     have hnb142 := NB442_481.out
                     have hnc142 := NB481_442.out
                     have hnb143 := NB442_484.out
                     have hnc143 := NB484_442.out
                     have hcz144_0 : wr.cell? ⟨gb442, 0, none⟩ = some (.int .i64 t440) := (blk_cell BK442.out 0).trans rfl
                     have hcz144_1 : wr.cell? ⟨gb442, 1, none⟩ = some (.string t441) := (blk_cell BK442.out 1).trans rfl
                     have hfz144_0 := blk_frozen BK442.out 0
                     have hfz144_1 := blk_frozen BK442.out 1
                     go_wp2
                     repeat (go_quiet (fail); try go_wp2)
                     go_roundg k3
                     case measure => have := HJ25.out; have := HK2.out; have := HK3.out; omega
                     case rel => exact ⟨(x26_3), (wrap64 (x27_3 + 1)), (by first | rfl | (simp; done) | (simp [*]; done)), (by first | rfl | (simp; done) | (simp [*]; done)), H', ⟨by have := HJ25.out; have := HK2.out; have := HK3.out; omega⟩, ⟨by (with_reducible repeat (first | apply Kd.R_alloc | apply Kd.R_drewN | apply Kd.R_drew)); exact HO_3.out⟩, ⟨by (with_reducible repeat (first | apply Kd.R_alloc | apply Kd.R_drewN | apply Kd.R_drew)); exact HO_21.out⟩, ⟨by (with_reducible repeat (first | refine blk_drewN ?_ _ | refine blk_drew ?_ | refine blk_alloc ?_ _)); exact BK442.out⟩, ⟨by (with_reducible repeat (first | refine blk_drewN ?_ _ | refine blk_drew ?_ | refine blk_alloc ?_ _)); exact BK456.out⟩, ⟨by (with_reducible repeat (first | refine blk_drewN ?_ _ | refine blk_drew ?_ | refine blk_alloc ?_ _)); exact BK481.out⟩, ⟨by (with_reducible repeat (first | refine blk_drewN ?_ _ | refine blk_drew ?_ | refine blk_alloc ?_ _)); exact BK484.out⟩, ⟨by repeat (first | (with_reducible first | exact HB.out | apply below_alloc | apply pw_below_drewN | apply below_drew1 | refine below_set ?_ GE442.out | refine below_set ?_ GE456.out | refine below_set ?_ GE481.out | refine below_set ?_ GE484.out) | exact HB.out)⟩⟩
                   ·rw [if_neg c135] at H
                    exact absurd H (by simp)
                  ·rw [if_neg c134] at H
                   have c134b0 : decide (x27_3 < (t437.length : Int)) = false := decide_eq_false c134
                   clear c134
                   by_cases c145 : x20_2 = (wrap64 (x26_3 + 1))
                   ·rw [if_pos c145] at H
                    have c145b0 : (x20_2 == (wrap64 (x26_3 + 1))) = true := beq_iff_eq.mpr c145
                    have c145b1 : (x20_2 != (wrap64 (x26_3 + 1))) = false := bne_eq_false_iff_eq.mpr c145
                    clear c145
                    obtain rfl := Option.some.inj H
                    obtain ⟨Ao146, co146, eo146⟩ := Kd.R_slice HO_21.out
                    subst eo146
                    go_wp2
                    repeat (go_quiet (fail); try go_wp2)
                    go_ret
                    exact ⟨by first | rfl | (simp [errW_none, errW_some] <;> rfl) | (simp [*, errW_none, errW_some] <;> rfl), by repeat (first | (with_reducible first | exact HB.out | apply below_alloc | apply pw_below_drewN | apply below_drew1 | refine below_set ?_ GE442.out | refine below_set ?_ GE456.out | refine below_set ?_ GE481.out | refine below_set ?_ GE484.out) | exact HB.out)⟩
                   ·rw [if_neg c145] at H
                    exact absurd H (by simp)
            ·replace c63 := Bool.eq_false_iff.mpr c63
             subst c63
             have H1 : (some ((t443.length : Int) == 0)) = some r := by rw [if_neg (show ¬ (false = true) by decide)] at H; exact H
             clear H
             have H := H1
             clear H1
             obtain rfl := Option.some.inj H
             go_wp2
             repeat (go_quiet (fail); try go_wp2)
             go_ret
             exact ⟨by first | rfl | (simp [errW_none, errW_some] <;> rfl) | (simp [*, errW_none, errW_some] <;> rfl), by repeat (first | (with_reducible first | exact HB.out | apply below_alloc | apply pw_below_drewN | apply below_drew1 | refine below_set ?_ GE442.out | refine below_set ?_ GE456.out | refine below_set ?_ GE481.out) | exact HB.out)⟩
        ·replace c25 := Bool.eq_false_iff.mpr c25
         subst c25
         have H1 : (none) = some r := by rw [if_neg (show ¬ (false = true) by decide)] at H; exact H
         clear H
         have H := H1
         clear H1
         exact absurd H (by simp)
     ·replace c20 := Bool.eq_false_iff.mpr c20
      subst c20
      have H1 : (none) = some r := by rw [if_neg (show ¬ (false = true) by decide)] at H; exact H
      clear H
      have H := H1
      clear H1
      exact absurd H (by simp)
   ·replace c14 := Bool.eq_false_iff.mpr c14
    subst c14
    have H1 : (none) = some r := by rw [if_neg (show ¬ (false = true) by decide)] at H; exact H
    clear H
    have H := H1
    clear H1
    exact absurd H (by simp)

/-- THE ONE PURE STATEMENT of laws_FnPool: yours. -/
def laws_FnPool.Pure : Prop := ∀ (l0 : List Int), l0.length ≤ maxLen → l0.length * 1 ≤ 140737488351232 → (∀ x ∈ l0, (Lit.int .u8 x).wf = true) → ∃ k, laws_FnPool.f k l0 = some true
theorem laws_FnPool.walk (P : laws_FnPool.Pure) (a0 : Option Addr) (len0 cap0 : Nat) (z0 : List Int) (w : World) (w0 : (a0 = none ∧ len0 = 0 ∧ cap0 = 0 ∧ z0 = []) ∨ ∃ x, a0 = some x ∧ len0 ≤ cap0 ∧ cap0 ≤ maxLen ∧ z0.length = cap0 ∧ (∀ i, i < z0.length → w.cell? (x.add i) = some (.int .u8 (z0.getD i 0))) ∧ ∀ n ∈ z0, (Lit.int .u8 n).wf = true) (y0 : len0 * 1 ≤ 140737488351232) :
  Calls Try.prog 11 #[.slice a0 len0 cap0] w fun e w' => e = .returned (.bool true) ∧ Below w.heap.size w w' := by
 obtain ⟨l0, rfl, hr0, hm0, hw0, hc0⟩ := ReadsInt.ofRowC w0
 obtain ⟨k, h⟩ := P l0 hm0 y0 hw0
 refine (laws_FnPool.calls k _ _ l0 true w (Kd.C_of_reads (d := (0 : Int)) (h1 := fun _ => rfl) hr0) hc0 h).mono ?_
 rintro e w' ⟨rfl, hd⟩
 exact ⟨rfl, hd⟩

end Go.Proofs.Ytckgkhlgnblblaa.PFnPool
