-- Written by a program of this session (wip/tools/pp.py over the kit's print).
import Derived.Test.YtgpofolfflfgiaaRows
import Derived.Test.YtgpofolfflfgiaaPFnExactOfferedx7
import Derived.Test.YtgpofolfflfgiaaAskFnExactOffered
import Derived.Test.YtgpofolfflfgiaaPureFnExactOffered
import Derived.WalkKit
import Derived.ProofKit
import Derived.OpenShut
import Derived.ShutString
import Derived.ChangeOld
import Derived.Below
import Derived.SizedLaws
namespace Go.Proofs.Ytgpofolfflfgiaa.fnExactOffered
open Go.ChangeShapes Go.WideShapes Go.ChangeAt Go.RowKit
open Go.RowKit Go.Proofs.Ytgpofolfflfgiaa.PFnExactOffered Go.Proofs.YtgpofolfflfgiaaW.PrintWords Go.Proofs.YtgpofolfflfgiaaW.PrintLast Go.Proofs.YtgpofolfflfgiaaW.PrintMore
open Go.ChangeMaps (open_string shut_string)
set_option linter.unusedVariables false
theorem own : ownKnob Try.prog.godebug = none := by kernel_rfl
theorem laidOut : laidOutB Try.prog = true := by kernel_rfl
set_option maxRecDepth 100000 in
theorem lifted (os : Os) (started : os.Started) (H : Type) (enc : TypeId × Value → H) :
    ReturnsInHanded {} Try.checked os 11 .any (Rows.fnExactOfferedSpec.pre6 enc Try.prog Try.f11 Rows.fnExactOfferedRow.domain false) (Rows.fnExactOfferedSpec.post enc Try.prog Try.f11 false true false false) := by
  refine returnsInHanded_of_change_sized (C := Try.checked) own started (by kernel_rfl) Try.func11
    (ChangeSpec.witness6 (enc := enc) (C := Try.checked) false ⟨#[], #[.slice none 0 0, .agg #[(.int .i64 0), (.string ⟨#[]⟩)]], []⟩ 8 (by kernel_rfl) (by kernel_rfl) (by kernel_rfl) (by kernel_rfl)) ?_
  intro W base args ds gs before hval0 hW hcnd hsz0 _
  have hval : ∀ (j : Nat) t v, Try.f11.params[j]? = some t → args[j]? = some v → Value.okWide Try.prog W .any base t v := hval0
  have hW' := hW
  obtain ⟨p, q, hA0, hV, rfl, hfz, hnd⟩ := hW
  have hA : DataW.TrodAll enc Try.prog W 0 (fun _ => true) true Try.f11.params.toList args.toList ds p := hA0
  rw [Try.params11] at hA hval
  obtain ⟨v0, vs0, d0, ds0, p0, q0, hargs, rfl, rfl, h0, r0⟩ := trodAll_cons hA
  obtain ⟨v1, vs1, d1, ds1, p1, q1, rfl, rfl, rfl, h1, r1⟩ := trodAll_cons r0
  obtain ⟨rfl, rfl, rfl⟩ := trodAll_nil r1
  obtain rfl : args = #[v0, v1] := by cases args; simp_all
  obtain ⟨rfl, rfl⟩ := trodVars_none hV
  have k0 := h0
  have lt0 : ∀ x ∈ p0, x.block < W.heap.size := by obtain ⟨m, hm⟩ := k0; exact DataW.trod_lt m _ _ _ hm
  obtain ⟨a0, len0, cap0, rfl⟩ := okWide_slice Try.underlying42 (hval 0 42 v0 rfl rfl)
  obtain ⟨l0, hK0, hok0⟩ : ∃ x, ((Kd.slice 63 k63)).K W x [.slice a0 len0 cap0] ∧ (okList ok63) x := by
    obtain ⟨fuel, hf⟩ := h0
    exact (opens_slice Try.underlying42 (by kernel_rfl) opens_63) _ _ _ _ _ _ _ _ _ (by simpa [Value.cells] using hf)
  obtain ⟨A0, cc0, e0, hl0, hC0⟩ := hK0
  simp only [List.cons.injEq, Value.slice.injEq, and_true] at e0
  obtain ⟨rfl, rfl, rfl⟩ := e0
  have k1 := h1
  have lt1 : ∀ x ∈ p1, x.block < W.heap.size := by obtain ⟨m, hm⟩ := k1; exact DataW.trod_lt m _ _ _ hm
  obtain ⟨cs1, rfl, sz1⟩ := okWide_struct Try.underlying63 (hval 1 63 v1 rfl rfl)
  obtain ⟨x1, hK1, hok1⟩ : ∃ x, ((Kd.pair (Kd.int .i64) Kd.string)).K W x cs1.toList ∧ (okPair (okInt .i64) okStr) x := by
    obtain ⟨fuel, hf⟩ := h1
    exact (opens_struct Try.underlying63 (by kernel_rfl) (fields_cons rfl (by kernel_rfl) (opens_int Try.underlying2) (fields_one rfl (by kernel_rfl) (opens_string Try.underlying9)))) _ _ _ _ _ _ _ _ _ (by simpa [Value.cells] using hf)
  obtain ⟨L1⟩ := cs1
  obtain ⟨M1, eM1⟩ : ∃ M, M = L1 := ⟨_, rfl⟩
  replace hK1 : ((Kd.pair (Kd.int .i64) Kd.string)).K W x1 M1 := by rw [eM1]; exact hK1
  obtain ⟨_, _, rfl, rfl, rfl⟩ := hK1
  simp only [List.cons_append, List.nil_append] at eM1
  subst eM1
  obtain ⟨k, h⟩ := Pure.FnExactOffered l0 x1.1 x1.2 hok0 hok1.1 hok1.2
  refine (laws_FnExactOffered.calls (k := k) (r := true) (w := W) (hr0 := hC0) (hc0 := hl0) (h := h)).mono ?_
  rintro e W' ⟨rfl, bel⟩
  exact ⟨_, rfl, _, _, _, [], _, [], hW', trodAll_mk1 (shut_bool Try.underlying4 _), (trodAll_cons_mk (Below.trod laidOut (by kernel_rfl) (of_decide_eq_true (by kernel_rfl)) k0 bel lt0) (trodAll_cons_mk (Below.trod laidOut (by kernel_rfl) (of_decide_eq_true (by kernel_rfl)) k1 bel lt1) trodAll_mk0)), rfl, bel.frame _, fun h => by cases h⟩
theorem over : Rows.fnExactOfferedRow.holds Try.pinned (OpenSpec.ofChange Rows.fnExactOfferedSpec) :=
  OpenClaim.holds_of_wide 11 Try.f11 rfl rfl rfl rfl rfl rfl rfl ⟨rfl, rfl, rfl, rfl, rfl⟩ rfl rfl rfl rfl rfl (by kernel_rfl) Try.func11 (by kernel_rfl)
    (of_decide_eq_true (by kernel_rfl)) (by unfold Func.isWrapper; first | (rw [if_pos (by decide +kernel)]; kernel_rfl) | (rw [if_neg (by decide +kernel)]; exact ⟨rfl, rfl⟩))
    (fun os started H enc _ => lifted os started H enc)
theorem proved : Rows.FnExactOfferedSaid := over
#print axioms proved
end Go.Proofs.Ytgpofolfflfgiaa.fnExactOffered
namespace Go.Proofs.Ytgpofolfflfgiaa
/-- The row, under a short name, for the claim. -/
theorem fnExactOffered_holds : Rows.FnExactOfferedSaid := fnExactOffered.proved
end Go.Proofs.Ytgpofolfflfgiaa
