-- Written by a program of this session (wip/tools/pp.py over the kit's print).
import Derived.Test.YtcegobkangpilaaDoorRows
import Derived.Test.YtcegobkangpilaaDoorPFnExactProofOkx10
import Derived.Test.YtcegobkangpilaaDoorAskFnExactProofOk
import Derived.Test.YtcegobkangpilaaDoorPureFnExactProofOk
import Derived.Test.YtcegobkangpilaaDoorTie
import Derived.Test.YtcegobkangpilaaDoorCards
import Derived.Test.YtcegobkangpilaaDoorTab
import Derived.SevenTiedAt
import Derived.LaidMore
import Derived.WalkKit
import Derived.ProofKit
import Derived.OpenShut
import Derived.ShutString
import Derived.ChangeOld
import Derived.Below
import Derived.SizedLaws
namespace Go.Proofs.YtcegobkangpilaaDoor.fnExactProofOk
open Go.ChangeShapes Go.WideShapes Go.ChangeAt Go.RowKit
open Go.RowKit Go.Proofs.YtcegobkangpilaaDoor.PFnExactProofOk Go.Proofs.YtcegobkangpilaaDoorW.PrintWords Go.Proofs.YtcegobkangpilaaDoorW.PrintLast Go.Proofs.YtcegobkangpilaaDoorW.PrintMore
open Go.ChangeMaps (open_string shut_string)
set_option linter.unusedVariables false
theorem own : ownKnob Tryd.prog.godebug = none := by kernel_rfl
theorem laidOut : laidOutB Tryd.prog = true := by kernel_rfl
set_option maxRecDepth 100000 in
theorem lifted (os : Os) (started : os.Started) (H : Type) (enc : TypeId × Value → H) :
    ReturnsInHanded {} Tryd.checked os 9 .any (fun w args => (Rows.fnExactProofOkSpec.pre enc Tryd.prog Tryd.f9 Rows.fnExactProofOkRow.domain false w args ∧ laidMetH Tryd.prog laidL w) ∧ sizedMet enc Tryd.prog Tryd.f9 (OpenSpec.ofChange Rows.fnExactProofOkSpec) false w args) (Rows.fnExactProofOkSpec.post enc Tryd.prog Tryd.f9 false true false false) := by
  refine returnsInHanded_of_change_and (C := Tryd.checked) (X := fun w _ => laidMetH Tryd.prog laidL w) (fun _ _ _ hh h => h.of_heap hh) own started (by kernel_rfl) Tryd.func9
    (ChangeSpec.witness_shaped (enc := enc) (C := Tryd.checked) (os := os) (X := fun w _ => laidMetH Tryd.prog laidL w) false (World.doorLaid Tryd.prog 400 os) #[.agg #[(.int .i64 0), (.int .i64 0), (.slice none 0 0), (.slice none 0 0)], .int .i64 0] 8 rfl (World.shaped_of_RefB (by kernel_rfl) (by kernel_rfl)) (by kernel_rfl) (by kernel_rfl) (by kernel_rfl) (door_met os _)) ?_
  intro W base args ds gs before hval0 hW hcnd hsz0 hL _
  have hval : ∀ (j : Nat) t v, Tryd.f9.params[j]? = some t → args[j]? = some v → Value.okWide Tryd.prog W .any base t v := hval0
  have hW' := hW
  obtain ⟨p, q, hA0, hV, rfl, hfz, hnd⟩ := hW
  have hA : DataW.TrodAll enc Tryd.prog W 0 (fun _ => true) true Tryd.f9.params.toList args.toList ds p := hA0
  rw [Tryd.params9] at hA hval
  obtain ⟨v0, vs0, d0, ds0, p0, q0, hargs, rfl, rfl, h0, r0⟩ := trodAll_cons hA
  obtain ⟨v1, vs1, d1, ds1, p1, q1, rfl, rfl, rfl, h1, r1⟩ := trodAll_cons r0
  obtain ⟨rfl, rfl, rfl⟩ := trodAll_nil r1
  obtain rfl : args = #[v0, v1] := by cases args; simp_all
  obtain ⟨rfl, rfl⟩ := trodVars_none hV
  have k0 := h0
  have lt0 : ∀ x ∈ p0, x.block < W.heap.size := by obtain ⟨m, hm⟩ := k0; exact DataW.trod_lt m _ _ _ hm
  obtain ⟨cs0, rfl, sz0⟩ := okWide_struct Tryd.underlying51 (hval 0 51 v0 rfl rfl)
  obtain ⟨x0, hK0, hok0⟩ : ∃ x, ((Kd.pair (Kd.int .i64) (Kd.pair (Kd.int .i64) (Kd.pair (Kd.slice 2 (Kd.int .i64)) (Kd.slice 2 (Kd.int .i64)))))).K W x cs0.toList ∧ (okPair (okInt .i64) (okPair (okInt .i64) (okPair (okList (okInt .i64)) (okList (okInt .i64))))) x := by
    obtain ⟨fuel, hf⟩ := h0
    exact (opens_struct Tryd.underlying51 (by kernel_rfl) (fields_cons rfl (by kernel_rfl) (opens_int Tryd.underlying2) (fields_cons rfl (by kernel_rfl) (opens_int Tryd.underlying2) (fields_cons rfl (by kernel_rfl) (opens_slice Tryd.underlying39 (by kernel_rfl) (opens_int Tryd.underlying2)) (fields_one rfl (by kernel_rfl) (opens_slice Tryd.underlying39 (by kernel_rfl) (opens_int Tryd.underlying2))))))) _ _ _ _ _ _ _ _ _ (by simpa [Value.cells] using hf)
  obtain ⟨L0⟩ := cs0
  obtain ⟨M0, eM0⟩ : ∃ M, M = L0 := ⟨_, rfl⟩
  replace hK0 : ((Kd.pair (Kd.int .i64) (Kd.pair (Kd.int .i64) (Kd.pair (Kd.slice 2 (Kd.int .i64)) (Kd.slice 2 (Kd.int .i64)))))).K W x0 M0 := by rw [eM0]; exact hK0
  obtain ⟨_, _, rfl, rfl, ⟨_, _, rfl, rfl, ⟨_, _, rfl, ⟨A0_2, cc0_2, rfl, hl0_2, hC0_2⟩, ⟨A0_3, cc0_3, rfl, hl0_3, hC0_3⟩⟩⟩⟩ := hK0
  simp only [List.cons_append, List.nil_append] at eM0
  subst eM0
  obtain ⟨a1, rfl, rfl, rfl, w1⟩ := open_int Tryd.underlying2 (hval 1 2 v1 rfl rfl) h1
  obtain ⟨k, h⟩ := Pure.FnExactProofOk x0.1 x0.2.1 x0.2.2.1 x0.2.2.2 a1 hok0.1 hok0.2.1 hok0.2.2.1 hok0.2.2.2 w1
  refine (laws_FnExactProofOk.calls (k := k) (r := true) (w := W) (hr0_2 := hC0_2) (hc0_2 := hl0_2) (hr0_3 := hC0_3) (hc0_3 := hl0_3) (h := h) (hT := tab_of_laid hL)).mono ?_
  rintro e W' ⟨rfl, bel⟩
  exact ⟨_, rfl, _, _, _, [], _, [], hW', trodAll_mk1 (shut_bool Tryd.underlying4 _), (trodAll_cons_mk (Below.trod laidOut (by kernel_rfl) (of_decide_eq_true (by kernel_rfl)) k0 bel lt0) (trodAll_cons_mk (shut_int Tryd.underlying2 w1) trodAll_mk0)), rfl, bel.frame _, fun h => by cases h⟩
theorem over : Rows.fnExactProofOkRow.holds Tryd.pinned (OpenSpec.ofChange Rows.fnExactProofOkSpec) :=
  OpenClaim.holds_of_wide 9 Tryd.f9 rfl rfl rfl rfl rfl rfl rfl ⟨rfl, rfl, rfl, rfl, rfl⟩ rfl rfl rfl rfl rfl (by kernel_rfl) Tryd.func9 (by kernel_rfl)
    (of_decide_eq_true (by kernel_rfl)) (by unfold Func.isWrapper; first | (rw [if_pos (by decide +kernel)]; kernel_rfl) | (rw [if_neg (by decide +kernel)]; exact ⟨rfl, rfl⟩))
    (fun os started H enc _ => lifted os started H enc)
theorem proved : Rows.FnExactProofOkSaid := over
theorem card_holds : Rows.FnExactProofOkCardSaid :=
  Claim7.holds_tied_plain_at .later [] [.data, .data, .data] true (true, "597afeee458ee06abd167f1cf33167c9dc46e656c4075ff7f6cbf1696a2feaba") false
    proved (fun _ h => by cases h) (by kernel_rfl) (fun _ h => by cases h) fnExactProofOk_row_tie rfl ⟨rfl, rfl⟩ (by kernel_rfl) rfl
    (fun f fn hf hfn => by
      obtain rfl : f = 9 := Option.some.inj ((show Tryd.prog.funcNamed "loop.example/g00217/laws.FnExactProofOk" = some 9 by kernel_rfl).symm.trans hf) |>.symm
      obtain rfl : fn = Tryd.f9 := (Option.some.inj (Tryd.func9.symm.trans hfn)).symm
      exact ⟨by kernel_rfl, fun j t ht => by
        rw [Tryd.params9] at ht
        have hm : t ∈ [51, 2] := by simpa using Array.mem_of_getElem? ht
        have hall : ([51, 2].all fun u => !Tryd.prog.wantsStandIn u) = true := by kernel_rfl
        exact (show Tryd.prog.wantsStandIn t = false by simpa using List.all_eq_true.1 hall t hm)⟩)
    (by kernel_rfl)
#print axioms card_holds
end Go.Proofs.YtcegobkangpilaaDoor.fnExactProofOk
namespace Go.Proofs.YtcegobkangpilaaDoor
/-- The row, under a short name, for the claim. -/
theorem fnExactProofOk_holds : Rows.FnExactProofOkCardSaid := fnExactProofOk.card_holds
end Go.Proofs.YtcegobkangpilaaDoor
