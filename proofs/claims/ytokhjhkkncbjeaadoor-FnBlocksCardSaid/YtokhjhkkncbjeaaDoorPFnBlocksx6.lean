-- Written by a program of this session (wip/tools/pp.py over the kit's print).
import Derived.Test.YtokhjhkkncbjeaaDoorPFnBlocksx0
import Derived.Test.YtokhjhkkncbjeaaDoorPFnBlocksx2
import Derived.Test.YtokhjhkkncbjeaaDoorPFnBlocksx5
namespace Go.Proofs.YtokhjhkkncbjeaaDoor.PFnBlocks
open Go.RowKit Go.Proofs.YtokhjhkkncbjeaaDoorW.PrintWords Go.Proofs.YtokhjhkkncbjeaaDoorW.PrintLast Go.Proofs.YtokhjhkkncbjeaaDoorW.PrintMore
attribute [local go_sem] max2_int min2_int max_two min_two max_three min_three max_four min_four
attribute [local go_sem high] str_gtr str_leq str_geq
set_option linter.unusedVariables false
set_option linter.unusedSimpArgs false

/-! ### spec_l1Max: function 45 -/
def spec_l1Max.f (a0 : Int) (a1 : Int) : Option (Int) := if a0 > a1 then (some a0) else (some a1)
set_option maxHeartbeats 8000000 in
set_option maxRecDepth 100000 in
theorem spec_l1Max.calls (a0 : Int) (a1 : Int) (r : Int) (w : World) (h : spec_l1Max.f a0 a1 = some r) :
  Calls Tryd.prog 45 #[.int .i64 a0, .int .i64 a1] w fun e w' => e = .returned (.int .i64 r) ∧ Drawn0 w w' := by
 have H : (if a0 > a1 then (some a0) else (some a1)) = some r := h
 clear h
 by_cases c3 : a0 > a1
 ·rw [if_pos c3] at H
  have c3b0 : decide (a1 < a0) = true := decide_eq_true c3
  clear c3
  obtain rfl := Option.some.inj H
  go_enter Tryd.func45, Tryd.ntmps45
  go_wp2
  go_ret
  exact ⟨J6, J2⟩
 ·rw [if_neg c3] at H
  have c3b0 : decide (a1 < a0) = false := decide_eq_false c3
  clear c3
  obtain rfl := Option.some.inj H
  go_enter Tryd.func45, Tryd.ntmps45
  go_wp2
  go_ret
  exact ⟨J6, J2⟩

end Go.Proofs.YtokhjhkkncbjeaaDoor.PFnBlocks
