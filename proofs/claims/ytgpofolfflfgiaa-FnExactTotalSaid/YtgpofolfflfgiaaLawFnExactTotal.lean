-- Written by a program of this session (wip/tools/pp.py over the kit's print).
import Derived.Test.YtgpofolfflfgiaaRows
import Derived.Test.YtgpofolfflfgiaaPFnExactTotalx2
import Derived.Test.YtgpofolfflfgiaaAskFnExactTotal
import Derived.Test.YtgpofolfflfgiaaPureFnExactTotal
import Derived.WalkKit
import Derived.ProofKit
import Derived.OpenShut
import Derived.ShutString
import Derived.ChangeOld
import Derived.Below
import Derived.SizedLaws
namespace Go.Proofs.Ytgpofolfflfgiaa.fnExactTotal
open Go.ChangeShapes Go.WideShapes Go.ChangeAt Go.RowKit
open Go.RowKit Go.Proofs.Ytgpofolfflfgiaa.PFnExactTotal Go.Proofs.YtgpofolfflfgiaaW.PrintWords Go.Proofs.YtgpofolfflfgiaaW.PrintLast Go.Proofs.YtgpofolfflfgiaaW.PrintMore
open Go.ChangeMaps (open_string shut_string)
set_option linter.unusedVariables false
theorem own : ownKnob Try.prog.godebug = none := by kernel_rfl
theorem laidOut : laidOutB Try.prog = true := by kernel_rfl
set_option maxRecDepth 100000 in
theorem lifted (os : Os) (started : os.Started) (H : Type) (enc : TypeId × Value → H) :
    ReturnsInHanded {} Try.checked os 9 .any (Rows.fnExactTotalSpec.pre6 enc Try.prog Try.f9 Rows.fnExactTotalRow.domain false) (Rows.fnExactTotalSpec.post enc Try.prog Try.f9 false true false false) := by
  refine returnsInHanded_of_change_sized (C := Try.checked) own started (by kernel_rfl) Try.func9
    (ChangeSpec.witness6 (enc := enc) (C := Try.checked) false ⟨#[], #[.agg #[(.slice none 0 0), (.slice none 0 0)]], []⟩ 8 (by kernel_rfl) (by kernel_rfl) (by kernel_rfl) (by kernel_rfl)) ?_
  intro W base args ds gs before hval0 hW hcnd hsz0 _
  have hval : ∀ (j : Nat) t v, Try.f9.params[j]? = some t → args[j]? = some v → Value.okWide Try.prog W .any base t v := hval0
  have hW' := hW
  obtain ⟨p, q, hA0, hV, rfl, hfz, hnd⟩ := hW
  have hA : DataW.TrodAll enc Try.prog W 0 (fun _ => true) true Try.f9.params.toList args.toList ds p := hA0
  rw [Try.params9] at hA hval
  obtain ⟨v0, vs0, d0, ds0, p0, q0, hargs, rfl, rfl, h0, r0⟩ := trodAll_cons hA
  obtain ⟨rfl, rfl, rfl⟩ := trodAll_nil r0
  obtain rfl : args = #[v0] := by cases args; simp_all
  obtain ⟨rfl, rfl⟩ := trodVars_none hV
  have k0 := h0
  have lt0 : ∀ x ∈ p0, x.block < W.heap.size := by obtain ⟨m, hm⟩ := k0; exact DataW.trod_lt m _ _ _ hm
  obtain ⟨cs0, rfl, sz0⟩ := okWide_struct Try.underlying51 (hval 0 51 v0 rfl rfl)
  obtain ⟨x0, hK0, hok0⟩ : ∃ x, ((Kd.pair (Kd.slice 2 (Kd.int .i64)) (Kd.slice 2 (Kd.int .i64)))).K W x cs0.toList ∧ (okPair (okList (okInt .i64)) (okList (okInt .i64))) x := by
    obtain ⟨fuel, hf⟩ := h0
    exact (opens_struct Try.underlying51 (by kernel_rfl) (fields_cons rfl (by kernel_rfl) (opens_slice Try.underlying49 (by kernel_rfl) (opens_int Try.underlying2)) (fields_one rfl (by kernel_rfl) (opens_slice Try.underlying49 (by kernel_rfl) (opens_int Try.underlying2))))) _ _ _ _ _ _ _ _ _ (by simpa [Value.cells] using hf)
  obtain ⟨L0⟩ := cs0
  obtain ⟨M0, eM0⟩ : ∃ M, M = L0 := ⟨_, rfl⟩
  replace hK0 : ((Kd.pair (Kd.slice 2 (Kd.int .i64)) (Kd.slice 2 (Kd.int .i64)))).K W x0 M0 := by rw [eM0]; exact hK0
  obtain ⟨_, _, rfl, ⟨A0_0, cc0_0, rfl, hl0_0, hC0_0⟩, ⟨A0_1, cc0_1, rfl, hl0_1, hC0_1⟩⟩ := hK0
  simp only [List.cons_append, List.nil_append] at eM0
  subst eM0
  obtain ⟨k, h⟩ := Pure.FnExactTotal x0.1 x0.2 hok0.1 hok0.2
  refine (laws_FnExactTotal.calls (k := k) (r := true) (w := W) (hr0_0 := hC0_0) (hc0_0 := hl0_0) (hr0_1 := hC0_1) (hc0_1 := hl0_1) (h := h)).mono ?_
  rintro e W' ⟨rfl, bel⟩
  exact ⟨_, rfl, _, _, _, [], _, [], hW', trodAll_mk1 (shut_bool Try.underlying4 _), (trodAll_cons_mk (Below.trod laidOut (by kernel_rfl) (of_decide_eq_true (by kernel_rfl)) k0 bel lt0) trodAll_mk0), rfl, bel.frame _, fun h => by cases h⟩
theorem over : Rows.fnExactTotalRow.holds Try.pinned (OpenSpec.ofChange Rows.fnExactTotalSpec) :=
  OpenClaim.holds_of_wide 9 Try.f9 rfl rfl rfl rfl rfl rfl rfl ⟨rfl, rfl, rfl, rfl, rfl⟩ rfl rfl rfl rfl rfl (by kernel_rfl) Try.func9 (by kernel_rfl)
    (of_decide_eq_true (by kernel_rfl)) (by unfold Func.isWrapper; first | (rw [if_pos (by decide +kernel)]; kernel_rfl) | (rw [if_neg (by decide +kernel)]; exact ⟨rfl, rfl⟩))
    (fun os started H enc _ => lifted os started H enc)
theorem proved : Rows.FnExactTotalSaid := over
#print axioms proved
end Go.Proofs.Ytgpofolfflfgiaa.fnExactTotal
namespace Go.Proofs.Ytgpofolfflfgiaa
/-- The row, under a short name, for the claim. -/
theorem fnExactTotal_holds : Rows.FnExactTotalSaid := fnExactTotal.proved
end Go.Proofs.Ytgpofolfflfgiaa
