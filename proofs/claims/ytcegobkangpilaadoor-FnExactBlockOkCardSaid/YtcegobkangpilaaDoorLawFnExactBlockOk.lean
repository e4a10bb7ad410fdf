-- Written by a program of this session (wip/tools/pp.py over the kit's print).
import Derived.Test.YtcegobkangpilaaDoorRows
import Derived.Test.YtcegobkangpilaaDoorPFnExactBlockOkx14
import Derived.Test.YtcegobkangpilaaDoorAskFnExactBlockOk
import Derived.Test.YtcegobkangpilaaDoorPureFnExactBlockOk
import Derived.Test.YtcegobkangpilaaDoorTie
import Derived.Test.YtcegobkangpilaaDoorCards
import Derived.Test.YtcegobkangpilaaDoorTab
import Derived.SevenTiedAt
import Derived.LaidMore
import Derived.WalkKit
import Derived.ProofKit
import Derived.OpenShut
import Derived.ShutString
import Derived.ChangeOld
import Derived.Below
import Derived.SizedLaws
namespace Go.Proofs.YtcegobkangpilaaDoor.fnExactBlockOk
open Go.ChangeShapes Go.WideShapes Go.ChangeAt Go.RowKit
open Go.RowKit Go.Proofs.YtcegobkangpilaaDoor.PFnExactBlockOk Go.Proofs.YtcegobkangpilaaDoorW.PrintWords Go.Proofs.YtcegobkangpilaaDoorW.PrintLast Go.Proofs.YtcegobkangpilaaDoorW.PrintMore
open Go.ChangeMaps (open_string shut_string)
set_option linter.unusedVariables false
theorem own : ownKnob Tryd.prog.godebug = none := by kernel_rfl
theorem laidOut : laidOutB Tryd.prog = true := by kernel_rfl
set_option maxRecDepth 100000 in
theorem lifted (os : Os) (started : os.Started) (H : Type) (enc : TypeId × Value → H) :
  ReturnsInHanded {} Tryd.checked os 13 .any (fun w args => (Rows.fnExactBlockOkSpec.pre enc Tryd.prog Tryd.f13 Rows.fnExactBlockOkRow.domain false w args ∧ laidMetH Tryd.prog laidL w) ∧ sizedMet enc Tryd.prog Tryd.f13 (OpenSpec.ofChange Rows.fnExactBlockOkSpec) false w args) (Rows.fnExactBlockOkSpec.post enc Tryd.prog Tryd.f13 false true false false) := by
 refine returnsInHanded_of_change_and (C := Tryd.checked) (X := fun w _ => laidMetH Tryd.prog laidL w) (fun _ _ _ hh h => h.of_heap hh) own started (by kernel_rfl) Tryd.func13
  (ChangeSpec.witness_shaped (enc := enc) (C := Tryd.checked) (os := os) (X := fun w _ => laidMetH Tryd.prog laidL w) false (World.doorLaid Tryd.prog 400 os) #[.agg #[(.int .i64 0), (.int .i64 0), (.int .i64 0), (.int .i64 0), (.slice none 0 0), (.slice none 0 0), (.slice none 0 0), (.int .i64 0)], .int .i64 0] 8 rfl (World.shaped_of_RefB (by kernel_rfl) (by kernel_rfl)) (by kernel_rfl) (by kernel_rfl) (by kernel_rfl) (door_met os _)) ?_
 intro W base args ds gs before hval0 hW hcnd hsz0 hL _
 have hval : ∀ (j : Nat) t v, Tryd.f13.params[j]? = some t → args[j]? = some v → Value.okWide Tryd.prog W .any base t v := hval0
 have hW' := hW
 obtain ⟨p, q, hA0, hV, rfl, hfz, hnd⟩ := hW
 have hA : DataW.TrodAll enc Tryd.prog W 0 (fun _ => true) true Tryd.f13.params.toList args.toList ds p := hA0
 rw [Tryd.params13] at hA hval
 obtain ⟨v0, vs0, d0, ds0, p0, q0, hargs, rfl, rfl, h0, r0⟩ := trodAll_cons hA
 obtain ⟨v1, vs1, d1, ds1, p1, q1, rfl, rfl, rfl, h1, r1⟩ := trodAll_cons r0
 obtain ⟨rfl, rfl, rfl⟩ := trodAll_nil r1
 obtain rfl : args = #[v0, v1] := by cases args; simp_all
 obtain ⟨rfl, rfl⟩ := trodVars_none hV
 have k0 := h0
 have lt0 : ∀ x ∈ p0, x.block < W.heap.size := by obtain ⟨m, hm⟩ := k0; exact DataW.trod_lt m _ _ _ hm
 obtain ⟨cs0, rfl, sz0⟩ := okWide_struct Tryd.underlying77 (hval 0 77 v0 rfl rfl)
 obtain ⟨x0, hK0, hok0⟩ : ∃ x, ((Kd.pair (Kd.int .i64) (Kd.pair (Kd.int .i64) (Kd.pair (Kd.pair (Kd.int .i64) (Kd.pair (Kd.int .i64) (Kd.pair (Kd.slice 2 (Kd.int .i64)) (Kd.slice 2 (Kd.int .i64))))) (Kd.pair (Kd.slice 9 Kd.string) (Kd.int .i64)))))).K W x cs0.toList ∧ (okPair (okInt .i64) (okPair (okInt .i64) (okPair (okPair (okInt .i64) (okPair (okInt .i64) (okPair (okList (okInt .i64)) (okList (okInt .i64))))) (okPair (okList okStr) (okInt .i64))))) x := by
  obtain ⟨fuel, hf⟩ := h0
  exact (opens_struct Tryd.underlying77 (by kernel_rfl) (fields_cons rfl (by kernel_rfl) (opens_int Tryd.underlying2) (fields_cons rfl (by kernel_rfl) (opens_int Tryd.underlying2) (fields_cons rfl (by kernel_rfl) (opens_struct Tryd.underlying51 (by kernel_rfl) (fields_cons rfl (by kernel_rfl) (opens_int Tryd.underlying2) (fields_cons rfl (by kernel_rfl) (opens_int Tryd.underlying2) (fields_cons rfl (by kernel_rfl) (opens_slice Tryd.underlying39 (by kernel_rfl) (opens_int Tryd.underlying2)) (fields_one rfl (by kernel_rfl) (opens_slice Tryd.underlying39 (by kernel_rfl) (opens_int Tryd.underlying2))))))) (fields_cons rfl (by kernel_rfl) (opens_slice Tryd.underlying75 (by kernel_rfl) (opens_string Tryd.underlying9)) (fields_one rfl (by kernel_rfl) (opens_int Tryd.underlying2))))))) _ _ _ _ _ _ _ _ _ (by simpa [Value.cells] using hf)
 obtain ⟨L0⟩ := cs0
 obtain ⟨M0, eM0⟩ : ∃ M, M = L0 := ⟨_, rfl⟩
 replace hK0 : ((Kd.pair (Kd.int .i64) (Kd.pair (Kd.int .i64) (Kd.pair (Kd.pair (Kd.int .i64) (Kd.pair (Kd.int .i64) (Kd.pair (Kd.slice 2 (Kd.int .i64)) (Kd.slice 2 (Kd.int .i64))))) (Kd.pair (Kd.slice 9 Kd.string) (Kd.int .i64)))))).K W x0 M0 := by rw [eM0]; exact hK0
 obtain ⟨_, _, rfl, rfl, ⟨_, _, rfl, rfl, ⟨_, _, rfl, ⟨_, _, rfl, rfl, ⟨_, _, rfl, rfl, ⟨_, _, rfl, ⟨A0_4, cc0_4, rfl, hl0_4, hC0_4⟩, ⟨A0_5, cc0_5, rfl, hl0_5, hC0_5⟩⟩⟩⟩, ⟨_, _, rfl, ⟨A0_6, cc0_6, rfl, hl0_6, hC0_6⟩, rfl⟩⟩⟩⟩ := hK0
 simp only [List.cons_append, List.nil_append] at eM0
 subst eM0
 obtain ⟨a1, rfl, rfl, rfl, w1⟩ := open_int Tryd.underlying2 (hval 1 2 v1 rfl rfl) h1
 obtain ⟨k, h⟩ := Pure.FnExactBlockOk x0.1 x0.2.1 x0.2.2.1.1 x0.2.2.1.2.1 x0.2.2.1.2.2.1 x0.2.2.1.2.2.2 x0.2.2.2.1 x0.2.2.2.2 a1 hok0.1 hok0.2.1 hok0.2.2.1.1 hok0.2.2.1.2.1 hok0.2.2.1.2.2.1 hok0.2.2.1.2.2.2 hok0.2.2.2.1 hok0.2.2.2.2 w1
 refine (laws_FnExactBlockOk.calls (k := k) (r := true) (w := W) (hr0_4 := hC0_4) (hc0_4 := hl0_4) (hr0_5 := hC0_5) (hc0_5 := hl0_5) (hr0_6 := hC0_6) (hc0_6 := hl0_6) (h := h) (hT := tab_of_laid hL)).mono ?_
 rintro e W' ⟨rfl, bel⟩
 exact ⟨_, rfl, _, _, _, [], _, [], hW', trodAll_mk1 (shut_bool Tryd.underlying4 _), (trodAll_cons_mk (Below.trod laidOut (by kernel_rfl) (of_decide_eq_true (by kernel_rfl)) k0 bel lt0) (trodAll_cons_mk (shut_int Tryd.underlying2 w1) trodAll_mk0)), rfl, bel.frame _, fun h => by cases h⟩
theorem over : Rows.fnExactBlockOkRow.holds Tryd.pinned (OpenSpec.ofChange Rows.fnExactBlockOkSpec) :=
 OpenClaim.holds_of_wide 13 Tryd.f13 rfl rfl rfl rfl rfl rfl rfl ⟨rfl, rfl, rfl, rfl, rfl⟩ rfl rfl rfl rfl rfl (by kernel_rfl) Tryd.func13 (by kernel_rfl)
  (of_decide_eq_true (by kernel_rfl)) (by unfold Func.isWrapper; first | (rw [if_pos (by decide +kernel)]; kernel_rfl) | (rw [if_neg (by decide +kernel)]; exact ⟨rfl, rfl⟩))
  (fun os started H enc _ => lifted os started H enc)
theorem proved : Rows.FnExactBlockOkSaid := over
theorem card_holds : Rows.FnExactBlockOkCardSaid :=
 Claim7.holds_tied_plain_at .later [] [.data, .data, .data] true (true, "597afeee458ee06abd167f1cf33167c9dc46e656c4075ff7f6cbf1696a2feaba") false
  proved (fun _ h => by cases h) (by kernel_rfl) (fun _ h => by cases h) fnExactBlockOk_row_tie rfl ⟨rfl, rfl⟩ (by kernel_rfl) rfl
  (fun f fn hf hfn => by
   obtain rfl : f = 13 := Option.some.inj ((show Tryd.prog.funcNamed "loop.example/g00217/laws.FnExactBlockOk" = some 13 by kernel_rfl).symm.trans hf) |>.symm
   obtain rfl : fn = Tryd.f13 := (Option.some.inj (Tryd.func13.symm.trans hfn)).symm
   exact ⟨by kernel_rfl, fun j t ht => by
    rw [Tryd.params13] at ht
    have hm : t ∈ [77, 2] := by simpa using Array.mem_of_getElem? ht
    have hall : ([77, 2].all fun u => !Tryd.prog.wantsStandIn u) = true := by kernel_rfl
    exact (show Tryd.prog.wantsStandIn t = false by simpa using List.all_eq_true.1 hall t hm)⟩)
  (by kernel_rfl)
#print axioms card_holds
end Go.Proofs.YtcegobkangpilaaDoor.fnExactBlockOk
namespace Go.Proofs.YtcegobkangpilaaDoor
/-- The row, under a short name, for the claim. -/
theorem fnExactBlockOk_holds : Rows.FnExactBlockOkCardSaid := fnExactBlockOk.card_holds
end Go.Proofs.YtcegobkangpilaaDoor
