-- Written by a program of this session (wip/tools/pp.py over the kit's print).
import Derived.Test.YtckgkhlgnblblaaRows
import Derived.Test.YtckgkhlgnblblaaPFnExactNamex6
import Derived.Test.YtckgkhlgnblblaaAskFnExactName
import Derived.Test.YtckgkhlgnblblaaPureFnExactName
import Derived.WalkKit
import Derived.ProofKit
import Derived.OpenShut
import Derived.ShutString
import Derived.ChangeOld
import Derived.Below
import Derived.SizedLaws
namespace Go.Proofs.Ytckgkhlgnblblaa.fnExactName
open Go.ChangeShapes Go.WideShapes Go.ChangeAt Go.RowKit
open Go.RowKit Go.Proofs.Ytckgkhlgnblblaa.PFnExactName Go.Proofs.YtckgkhlgnblblaaW.PrintWords Go.Proofs.YtckgkhlgnblblaaW.PrintLast Go.Proofs.YtckgkhlgnblblaaW.PrintMore
open Go.ChangeMaps (open_string shut_string)
set_option linter.unusedVariables false
theorem own : ownKnob Try.prog.godebug = none := by kernel_rfl
theorem laidOut : laidOutB Try.prog = true := by kernel_rfl
set_option maxRecDepth 100000 in
theorem lifted (os : Os) (started : os.Started) (H : Type) (enc : TypeId × Value → H) :
    ReturnsInHanded {} Try.checked os 5 .any (Rows.fnExactNameSpec.pre6 enc Try.prog Try.f5 Rows.fnExactNameRow.domain false) (Rows.fnExactNameSpec.post enc Try.prog Try.f5 false true false false) := by
  refine returnsInHanded_of_change_sized (C := Try.checked) own started (by kernel_rfl) Try.func5
    (ChangeSpec.witness6 (enc := enc) (C := Try.checked) false ⟨#[], #[.agg #[(.int .i64 0), (.int .i64 0), (.int .i64 0), (.int .i64 0), (.slice none 0 0), (.slice none 0 0), (.slice none 0 0), (.int .i64 0)]], []⟩ 8 (by kernel_rfl) (by kernel_rfl) (by kernel_rfl) (by kernel_rfl)) ?_
  intro W base args ds gs before hval0 hW hcnd hsz0 _
  have hval : ∀ (j : Nat) t v, Try.f5.params[j]? = some t → args[j]? = some v → Value.okWide Try.prog W .any base t v := hval0
  have hW' := hW
  obtain ⟨p, q, hA0, hV, rfl, hfz, hnd⟩ := hW
  have hA : DataW.TrodAll enc Try.prog W 0 (fun _ => true) true Try.f5.params.toList args.toList ds p := hA0
  rw [Try.params5] at hA hval
  obtain ⟨v0, vs0, d0, ds0, p0, q0, hargs, rfl, rfl, h0, r0⟩ := trodAll_cons hA
  obtain ⟨rfl, rfl, rfl⟩ := trodAll_nil r0
  obtain rfl : args = #[v0] := by cases args; simp_all
  obtain ⟨rfl, rfl⟩ := trodVars_none hV
  have k0 := h0
  have lt0 : ∀ x ∈ p0, x.block < W.heap.size := by obtain ⟨m, hm⟩ := k0; exact DataW.trod_lt m _ _ _ hm
  obtain ⟨cs0, rfl, sz0⟩ := okWide_struct Try.underlying37 (hval 0 37 v0 rfl rfl)
  obtain ⟨x0, hK0, hok0⟩ : ∃ x, ((Kd.pair (Kd.int .i64) (Kd.pair (Kd.int .i64) (Kd.pair (Kd.pair (Kd.int .i64) (Kd.pair (Kd.int .i64) (Kd.pair (Kd.slice 2 (Kd.int .i64)) (Kd.slice 2 (Kd.int .i64))))) (Kd.pair (Kd.slice 9 Kd.string) (Kd.int .i64)))))).K W x cs0.toList ∧ (okPair (okInt .i64) (okPair (okInt .i64) (okPair (okPair (okInt .i64) (okPair (okInt .i64) (okPair (okList (okInt .i64)) (okList (okInt .i64))))) (okPair (okList okStr) (okInt .i64))))) x := by
    obtain ⟨fuel, hf⟩ := h0
    exact (opens_struct Try.underlying37 (by kernel_rfl) (fields_cons rfl (by kernel_rfl) (opens_int Try.underlying2) (fields_cons rfl (by kernel_rfl) (opens_int Try.underlying2) (fields_cons rfl (by kernel_rfl) (opens_struct Try.underlying35 (by kernel_rfl) (fields_cons rfl (by kernel_rfl) (opens_int Try.underlying2) (fields_cons rfl (by kernel_rfl) (opens_int Try.underlying2) (fields_cons rfl (by kernel_rfl) (opens_slice Try.underlying33 (by kernel_rfl) (opens_int Try.underlying2)) (fields_one rfl (by kernel_rfl) (opens_slice Try.underlying33 (by kernel_rfl) (opens_int Try.underlying2))))))) (fields_cons rfl (by kernel_rfl) (opens_slice Try.underlying24 (by kernel_rfl) (opens_string Try.underlying9)) (fields_one rfl (by kernel_rfl) (opens_int Try.underlying2))))))) _ _ _ _ _ _ _ _ _ (by simpa [Value.cells] using hf)
  obtain ⟨L0⟩ := cs0
  obtain ⟨M0, eM0⟩ : ∃ M, M = L0 := ⟨_, rfl⟩
  replace hK0 : ((Kd.pair (Kd.int .i64) (Kd.pair (Kd.int .i64) (Kd.pair (Kd.pair (Kd.int .i64) (Kd.pair (Kd.int .i64) (Kd.pair (Kd.slice 2 (Kd.int .i64)) (Kd.slice 2 (Kd.int .i64))))) (Kd.pair (Kd.slice 9 Kd.string) (Kd.int .i64)))))).K W x0 M0 := by rw [eM0]; exact hK0
  obtain ⟨_, _, rfl, rfl, ⟨_, _, rfl, rfl, ⟨_, _, rfl, ⟨_, _, rfl, rfl, ⟨_, _, rfl, rfl, ⟨_, _, rfl, ⟨A0_4, cc0_4, rfl, hl0_4, hC0_4⟩, ⟨A0_5, cc0_5, rfl, hl0_5, hC0_5⟩⟩⟩⟩, ⟨_, _, rfl, ⟨A0_6, cc0_6, rfl, hl0_6, hC0_6⟩, rfl⟩⟩⟩⟩ := hK0
  simp only [List.cons_append, List.nil_append] at eM0
  subst eM0
  obtain ⟨k, h⟩ := Pure.FnExactName x0.1 x0.2.1 x0.2.2.1.1 x0.2.2.1.2.1 x0.2.2.1.2.2.1 x0.2.2.1.2.2.2 x0.2.2.2.1 x0.2.2.2.2 hok0.1 hok0.2.1 hok0.2.2.1.1 hok0.2.2.1.2.1 hok0.2.2.1.2.2.1 hok0.2.2.1.2.2.2 hok0.2.2.2.1 hok0.2.2.2.2
  refine (laws_FnExactName.calls (k := k) (r := true) (w := W) (hr0_4 := hC0_4) (hc0_4 := hl0_4) (hr0_5 := hC0_5) (hc0_5 := hl0_5) (hr0_6 := hC0_6) (hc0_6 := hl0_6) (h := h)).mono ?_
  rintro e W' ⟨rfl, bel⟩
  exact ⟨_, rfl, _, _, _, [], _, [], hW', trodAll_mk1 (shut_bool Try.underlying4 _), (trodAll_cons_mk (Below.trod laidOut (by kernel_rfl) (of_decide_eq_true (by kernel_rfl)) k0 bel lt0) trodAll_mk0), rfl, bel.frame _, fun h => by cases h⟩
theorem over : Rows.fnExactNameRow.holds Try.pinned (OpenSpec.ofChange Rows.fnExactNameSpec) :=
  OpenClaim.holds_of_wide 5 Try.f5 rfl rfl rfl rfl rfl rfl rfl ⟨rfl, rfl, rfl, rfl, rfl⟩ rfl rfl rfl rfl rfl (by kernel_rfl) Try.func5 (by kernel_rfl)
    (of_decide_eq_true (by kernel_rfl)) (by unfold Func.isWrapper; first | (rw [if_pos (by decide +kernel)]; kernel_rfl) | (rw [if_neg (by decide +kernel)]; exact ⟨rfl, rfl⟩))
    (fun os started H enc _ => lifted os started H enc)
theorem proved : Rows.FnExactNameSaid := over
#print axioms proved
end Go.Proofs.Ytckgkhlgnblblaa.fnExactName
namespace Go.Proofs.Ytckgkhlgnblblaa
/-- The row, under a short name, for the claim. -/
theorem fnExactName_holds : Rows.FnExactNameSaid := fnExactName.proved
end Go.Proofs.Ytckgkhlgnblblaa
