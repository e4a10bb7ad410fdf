/-
  NARROWER THAN 'FOR EVERY INPUT', by the rows' own cells (each row's printed sentence says how): FnExactRecord: laid · FnExactShowMove: laid · FnExactVoteOk: laid · FnExactVoted: laid · FnExactHolds: laid · FnExactPeak: laid · FnExactProofOk: laid · FnExactParted: laid · FnExactWay: laid · FnExactGathered: laid · FnExactBlockOk: laid · FnProofs: laid.
  DERIVED. THE GIVEN ROWS OF THIS SEAT. 12 by the template 'for every input the law returns true; each argument reads behind the call as it read before'; 0 by the template 'total and deterministic' (their statements: YtcegobkangpilaaDoorTotals.lean).
  GIVEN WITH THE SEED: the statements are not yours to turn. If you find one false, say at which input.
  Laid BY PROGRAM, IN A SANDBOX (cutbox-rows.mjs): the forced cells as the released guide's own fill.sh prints them over the translation 2c30df8aa492063d… (all of the seat's roots in one cut). By AI agents, Wed Nov 11 2026. No macro, syntax, notation, axiom, sorry.
-/
import Derived.Test.YtcegobkangpilaaDoorChecked
import GoSem.Claim
import GoSem.ClaimJoined
import GoSem.ClaimMapViews
import Derived.JoinedTies
import Derived.KernelRfl
namespace Go.Proofs.YtcegobkangpilaaDoor
/- THE CELL 'sum', in the pinned program and in every row, IS THE sha256 OF THE DUMP (.gsa) THAT YtcegobkangpilaaDoorProg.lean LOADS. Nothing in Lean hashes anything: it is a label: what it is worth is what the hold of that sum in a sandbox is worth. -/
noncomputable def Tryd.pinned : Pinned := { name := "ytcegobkangpilaadoor", sum := "2c30df8aa492063db79a03b3962acc0f705f2c0a3a05ba42a2b93d223e8161fb", checked := Tryd.checked }
namespace Rows
def none {H : Type} : Left H := { results := [], args := [] }

/- WHAT THE LISTED PACKAGE-LEVEL VARIABLES READ AS WHEN THE CALL BEGINS. Each datum BY PROGRAM (the guide's laid-datum.mjs) off the statement by which the dump's own 'gosem.cut.vars' lays the variable. In a bare row this is a premise. The card (YtcegobkangpilaaDoorCards.lean) ties it to the program's text. -/
def laid_math_bits_deBruijn32tab {H : Type} : DataW H := .agg [.lit (.int .u8 0), .lit (.int .u8 1), .lit (.int .u8 28), .lit (.int .u8 2), .lit (.int .u8 29), .lit (.int .u8 14), .lit (.int .u8 24), .lit (.int .u8 3), .lit (.int .u8 30), .lit (.int .u8 22), .lit (.int .u8 20), .lit (.int .u8 15), .lit (.int .u8 25), .lit (.int .u8 17), .lit (.int .u8 4), .lit (.int .u8 8), .lit (.int .u8 31), .lit (.int .u8 27), .lit (.int .u8 13), .lit (.int .u8 23), .lit (.int .u8 21), .lit (.int .u8 19), .lit (.int .u8 16), .lit (.int .u8 7), .lit (.int .u8 26), .lit (.int .u8 12), .lit (.int .u8 18), .lit (.int .u8 6), .lit (.int .u8 11), .lit (.int .u8 5), .lit (.int .u8 10), .lit (.int .u8 9)]
def laid_math_bits_deBruijn64tab {H : Type} : DataW H := .agg [.lit (.int .u8 0), .lit (.int .u8 1), .lit (.int .u8 56), .lit (.int .u8 2), .lit (.int .u8 57), .lit (.int .u8 49), .lit (.int .u8 28), .lit (.int .u8 3), .lit (.int .u8 61), .lit (.int .u8 58), .lit (.int .u8 42), .lit (.int .u8 50), .lit (.int .u8 38), .lit (.int .u8 29), .lit (.int .u8 17), .lit (.int .u8 4), .lit (.int .u8 62), .lit (.int .u8 47), .lit (.int .u8 59), .lit (.int .u8 36), .lit (.int .u8 45), .lit (.int .u8 43), .lit (.int .u8 51), .lit (.int .u8 22), .lit (.int .u8 53), .lit (.int .u8 39), .lit (.int .u8 33), .lit (.int .u8 30), .lit (.int .u8 24), .lit (.int .u8 18), .lit (.int .u8 12), .lit (.int .u8 5), .lit (.int .u8 63), .lit (.int .u8 55), .lit (.int .u8 48), .lit (.int .u8 27), .lit (.int .u8 60), .lit (.int .u8 41), .lit (.int .u8 37), .lit (.int .u8 16), .lit (.int .u8 46), .lit (.int .u8 35), .lit (.int .u8 44), .lit (.int .u8 21), .lit (.int .u8 52), .lit (.int .u8 32), .lit (.int .u8 23), .lit (.int .u8 11), .lit (.int .u8 54), .lit (.int .u8 26), .lit (.int .u8 40), .lit (.int .u8 15), .lit (.int .u8 34), .lit (.int .u8 20), .lit (.int .u8 31), .lit (.int .u8 10), .lit (.int .u8 25), .lit (.int .u8 14), .lit (.int .u8 19), .lit (.int .u8 9), .lit (.int .u8 13), .lit (.int .u8 8), .lit (.int .u8 7), .lit (.int .u8 6)]
def laid_internal_strconv_uint64pow10 {H : Type} : DataW H := .agg [.lit (.int .u64 1), .lit (.int .u64 10), .lit (.int .u64 100), .lit (.int .u64 1000), .lit (.int .u64 10000), .lit (.int .u64 100000), .lit (.int .u64 1000000), .lit (.int .u64 10000000), .lit (.int .u64 100000000), .lit (.int .u64 1000000000), .lit (.int .u64 10000000000), .lit (.int .u64 100000000000), .lit (.int .u64 1000000000000), .lit (.int .u64 10000000000000), .lit (.int .u64 100000000000000), .lit (.int .u64 1000000000000000), .lit (.int .u64 10000000000000000), .lit (.int .u64 100000000000000000), .lit (.int .u64 1000000000000000000), .lit (.int .u64 10000000000000000000)]

/-- 'laws.FnExactRecord': WHATEVER THE INPUT: true; the input reads as it did. -/
def fnExactRecordSpec : ChangeSpec := { name := "fnExactRecord", fn := fun _ => fun
  | [d] => { results := [.lit (.bool true)], args := [d] }
  | _ => none }
def fnExactRecordRow : OpenClaim := { program := "ytcegobkangpilaadoor", sum := "2c30df8aa492063db79a03b3962acc0f705f2c0a3a05ba42a2b93d223e8161fb", func := "loop.example/g00217/laws.FnExactRecord", spec := "fnExactRecord", named := ["internal/strconv.uint64pow10", "math/bits.deBruijn32tab", "math/bits.deBruijn64tab"], apart := false, laid := [("math/bits.deBruijn32tab", laid_math_bits_deBruijn32tab), ("math/bits.deBruijn64tab", laid_math_bits_deBruijn64tab), ("internal/strconv.uint64pow10", laid_internal_strconv_uint64pow10)] }
def FnExactRecordSaid : Prop := fnExactRecordRow.holds Tryd.pinned (OpenSpec.ofChange fnExactRecordSpec)

/-- ITS FALSE NEIGHBOUR: 'it returns false'. Refute it at one input. -/
def fnExactRecordWrong : ChangeSpec := { name := "fnExactRecord", fn := fun _ => fun
  | [d] => { results := [.lit (.bool false)], args := [d] }
  | _ => none }
def FnExactRecordWrongFalsely : Prop := fnExactRecordRow.holds Tryd.pinned (OpenSpec.ofChange fnExactRecordWrong)

/-- 'laws.FnExactShowMove': WHATEVER THE INPUT: true; the input reads as it did. -/
def fnExactShowMoveSpec : ChangeSpec := { name := "fnExactShowMove", fn := fun _ => fun
  | [d] => { results := [.lit (.bool true)], args := [d] }
  | _ => none }
def fnExactShowMoveRow : OpenClaim := { program := "ytcegobkangpilaadoor", sum := "2c30df8aa492063db79a03b3962acc0f705f2c0a3a05ba42a2b93d223e8161fb", func := "loop.example/g00217/laws.FnExactShowMove", spec := "fnExactShowMove", named := ["internal/strconv.uint64pow10", "math/bits.deBruijn32tab", "math/bits.deBruijn64tab"], apart := false, laid := [("math/bits.deBruijn32tab", laid_math_bits_deBruijn32tab), ("math/bits.deBruijn64tab", laid_math_bits_deBruijn64tab), ("internal/strconv.uint64pow10", laid_internal_strconv_uint64pow10)] }
def FnExactShowMoveSaid : Prop := fnExactShowMoveRow.holds Tryd.pinned (OpenSpec.ofChange fnExactShowMoveSpec)

/-- ITS FALSE NEIGHBOUR: 'it returns false'. Refute it at one input. -/
def fnExactShowMoveWrong : ChangeSpec := { name := "fnExactShowMove", fn := fun _ => fun
  | [d] => { results := [.lit (.bool false)], args := [d] }
  | _ => none }
def FnExactShowMoveWrongFalsely : Prop := fnExactShowMoveRow.holds Tryd.pinned (OpenSpec.ofChange fnExactShowMoveWrong)

/-- 'laws.FnExactVoteOk': WHATEVER THE INPUT: true; the input reads as it did. -/
def fnExactVoteOkSpec : ChangeSpec := { name := "fnExactVoteOk", fn := fun _ => fun
  | [d1, d2] => { results := [.lit (.bool true)], args := [d1, d2] }
  | _ => none }
def fnExactVoteOkRow : OpenClaim := { program := "ytcegobkangpilaadoor", sum := "2c30df8aa492063db79a03b3962acc0f705f2c0a3a05ba42a2b93d223e8161fb", func := "loop.example/g00217/laws.FnExactVoteOk", spec := "fnExactVoteOk", named := ["internal/strconv.uint64pow10", "math/bits.deBruijn32tab", "math/bits.deBruijn64tab"], apart := false, laid := [("math/bits.deBruijn32tab", laid_math_bits_deBruijn32tab), ("math/bits.deBruijn64tab", laid_math_bits_deBruijn64tab), ("internal/strconv.uint64pow10", laid_internal_strconv_uint64pow10)] }
def FnExactVoteOkSaid : Prop := fnExactVoteOkRow.holds Tryd.pinned (OpenSpec.ofChange fnExactVoteOkSpec)

/-- ITS FALSE NEIGHBOUR: 'it returns false'. Refute it at one input. -/
def fnExactVoteOkWrong : ChangeSpec := { name := "fnExactVoteOk", fn := fun _ => fun
  | [d1, d2] => { results := [.lit (.bool false)], args := [d1, d2] }
  | _ => none }
def FnExactVoteOkWrongFalsely : Prop := fnExactVoteOkRow.holds Tryd.pinned (OpenSpec.ofChange fnExactVoteOkWrong)

/-- 'laws.FnExactVoted': WHATEVER THE INPUT: true; the input reads as it did. -/
def fnExactVotedSpec : ChangeSpec := { name := "fnExactVoted", fn := fun _ => fun
  | [d1, d2, d3] => { results := [.lit (.bool true)], args := [d1, d2, d3] }
  | _ => none }
def fnExactVotedRow : OpenClaim := { program := "ytcegobkangpilaadoor", sum := "2c30df8aa492063db79a03b3962acc0f705f2c0a3a05ba42a2b93d223e8161fb", func := "loop.example/g00217/laws.FnExactVoted", spec := "fnExactVoted", named := ["internal/strconv.uint64pow10", "math/bits.deBruijn32tab", "math/bits.deBruijn64tab"], apart := false, laid := [("math/bits.deBruijn32tab", laid_math_bits_deBruijn32tab), ("math/bits.deBruijn64tab", laid_math_bits_deBruijn64tab), ("internal/strconv.uint64pow10", laid_internal_strconv_uint64pow10)] }
def FnExactVotedSaid : Prop := fnExactVotedRow.holds Tryd.pinned (OpenSpec.ofChange fnExactVotedSpec)

/-- ITS FALSE NEIGHBOUR: 'it returns false'. Refute it at one input. -/
def fnExactVotedWrong : ChangeSpec := { name := "fnExactVoted", fn := fun _ => fun
  | [d1, d2, d3] => { results := [.lit (.bool false)], args := [d1, d2, d3] }
  | _ => none }
def FnExactVotedWrongFalsely : Prop := fnExactVotedRow.holds Tryd.pinned (OpenSpec.ofChange fnExactVotedWrong)

/-- 'laws.FnExactHolds': WHATEVER THE INPUT: true; the input reads as it did. -/
def fnExactHoldsSpec : ChangeSpec := { name := "fnExactHolds", fn := fun _ => fun
  | [d1, d2, d3, d4] => { results := [.lit (.bool true)], args := [d1, d2, d3, d4] }
  | _ => none }
def fnExactHoldsRow : OpenClaim := { program := "ytcegobkangpilaadoor", sum := "2c30df8aa492063db79a03b3962acc0f705f2c0a3a05ba42a2b93d223e8161fb", func := "loop.example/g00217/laws.FnExactHolds", spec := "fnExactHolds", named := ["internal/strconv.uint64pow10", "math/bits.deBruijn32tab", "math/bits.deBruijn64tab"], apart := false, laid := [("math/bits.deBruijn32tab", laid_math_bits_deBruijn32tab), ("math/bits.deBruijn64tab", laid_math_bits_deBruijn64tab), ("internal/strconv.uint64pow10", laid_internal_strconv_uint64pow10)] }
def FnExactHoldsSaid : Prop := fnExactHoldsRow.holds Tryd.pinned (OpenSpec.ofChange fnExactHoldsSpec)

/-- ITS FALSE NEIGHBOUR: 'it returns false'. Refute it at one input. -/
def fnExactHoldsWrong : ChangeSpec := { name := "fnExactHolds", fn := fun _ => fun
  | [d1, d2, d3, d4] => { results := [.lit (.bool false)], args := [d1, d2, d3, d4] }
  | _ => none }
def FnExactHoldsWrongFalsely : Prop := fnExactHoldsRow.holds Tryd.pinned (OpenSpec.ofChange fnExactHoldsWrong)

/-- 'laws.FnExactPeak': WHATEVER THE INPUT: true; the input reads as it did. -/
def fnExactPeakSpec : ChangeSpec := { name := "fnExactPeak", fn := fun _ => fun
  | [d] => { results := [.lit (.bool true)], args := [d] }
  | _ => none }
def fnExactPeakRow : OpenClaim := { program := "ytcegobkangpilaadoor", sum := "2c30df8aa492063db79a03b3962acc0f705f2c0a3a05ba42a2b93d223e8161fb", func := "loop.example/g00217/laws.FnExactPeak", spec := "fnExactPeak", named := ["internal/strconv.uint64pow10", "math/bits.deBruijn32tab", "math/bits.deBruijn64tab"], apart := false, laid := [("math/bits.deBruijn32tab", laid_math_bits_deBruijn32tab), ("math/bits.deBruijn64tab", laid_math_bits_deBruijn64tab), ("internal/strconv.uint64pow10", laid_internal_strconv_uint64pow10)] }
def FnExactPeakSaid : Prop := fnExactPeakRow.holds Tryd.pinned (OpenSpec.ofChange fnExactPeakSpec)

/-- ITS FALSE NEIGHBOUR: 'it returns false'. Refute it at one input. -/
def fnExactPeakWrong : ChangeSpec := { name := "fnExactPeak", fn := fun _ => fun
  | [d] => { results := [.lit (.bool false)], args := [d] }
  | _ => none }
def FnExactPeakWrongFalsely : Prop := fnExactPeakRow.holds Tryd.pinned (OpenSpec.ofChange fnExactPeakWrong)

/-- 'laws.FnExactProofOk': WHATEVER THE INPUT: true; the input reads as it did. -/
def fnExactProofOkSpec : ChangeSpec := { name := "fnExactProofOk", fn := fun _ => fun
  | [d1, d2] => { results := [.lit (.bool true)], args := [d1, d2] }
  | _ => none }
def fnExactProofOkRow : OpenClaim := { program := "ytcegobkangpilaadoor", sum := "2c30df8aa492063db79a03b3962acc0f705f2c0a3a05ba42a2b93d223e8161fb", func := "loop.example/g00217/laws.FnExactProofOk", spec := "fnExactProofOk", named := ["internal/strconv.uint64pow10", "math/bits.deBruijn32tab", "math/bits.deBruijn64tab"], apart := false, laid := [("math/bits.deBruijn32tab", laid_math_bits_deBruijn32tab), ("math/bits.deBruijn64tab", laid_math_bits_deBruijn64tab), ("internal/strconv.uint64pow10", laid_internal_strconv_uint64pow10)] }
def FnExactProofOkSaid : Prop := fnExactProofOkRow.holds Tryd.pinned (OpenSpec.ofChange fnExactProofOkSpec)

/-- ITS FALSE NEIGHBOUR: 'it returns false'. Refute it at one input. -/
def fnExactProofOkWrong : ChangeSpec := { name := "fnExactProofOk", fn := fun _ => fun
  | [d1, d2] => { results := [.lit (.bool false)], args := [d1, d2] }
  | _ => none }
def FnExactProofOkWrongFalsely : Prop := fnExactProofOkRow.holds Tryd.pinned (OpenSpec.ofChange fnExactProofOkWrong)

/-- 'laws.FnExactParted': WHATEVER THE INPUT: true; the input reads as it did. -/
def fnExactPartedSpec : ChangeSpec := { name := "fnExactParted", fn := fun _ => fun
  | [d1, d2, d3, d4, d5] => { results := [.lit (.bool true)], args := [d1, d2, d3, d4, d5] }
  | _ => none }
def fnExactPartedRow : OpenClaim := { program := "ytcegobkangpilaadoor", sum := "2c30df8aa492063db79a03b3962acc0f705f2c0a3a05ba42a2b93d223e8161fb", func := "loop.example/g00217/laws.FnExactParted", spec := "fnExactParted", named := ["internal/strconv.uint64pow10", "math/bits.deBruijn32tab", "math/bits.deBruijn64tab"], apart := false, laid := [("math/bits.deBruijn32tab", laid_math_bits_deBruijn32tab), ("math/bits.deBruijn64tab", laid_math_bits_deBruijn64tab), ("internal/strconv.uint64pow10", laid_internal_strconv_uint64pow10)] }
def FnExactPartedSaid : Prop := fnExactPartedRow.holds Tryd.pinned (OpenSpec.ofChange fnExactPartedSpec)

/-- ITS FALSE NEIGHBOUR: 'it returns false'. Refute it at one input. -/
def fnExactPartedWrong : ChangeSpec := { name := "fnExactParted", fn := fun _ => fun
  | [d1, d2, d3, d4, d5] => { results := [.lit (.bool false)], args := [d1, d2, d3, d4, d5] }
  | _ => none }
def FnExactPartedWrongFalsely : Prop := fnExactPartedRow.holds Tryd.pinned (OpenSpec.ofChange fnExactPartedWrong)

/-- 'laws.FnExactWay': WHATEVER THE INPUT: true; the input reads as it did. -/
def fnExactWaySpec : ChangeSpec := { name := "fnExactWay", fn := fun _ => fun
  | [d1, d2] => { results := [.lit (.bool true)], args := [d1, d2] }
  | _ => none }
def fnExactWayRow : OpenClaim := { program := "ytcegobkangpilaadoor", sum := "2c30df8aa492063db79a03b3962acc0f705f2c0a3a05ba42a2b93d223e8161fb", func := "loop.example/g00217/laws.FnExactWay", spec := "fnExactWay", named := ["internal/strconv.uint64pow10", "math/bits.deBruijn32tab", "math/bits.deBruijn64tab"], apart := false, laid := [("math/bits.deBruijn32tab", laid_math_bits_deBruijn32tab), ("math/bits.deBruijn64tab", laid_math_bits_deBruijn64tab), ("internal/strconv.uint64pow10", laid_internal_strconv_uint64pow10)] }
def FnExactWaySaid : Prop := fnExactWayRow.holds Tryd.pinned (OpenSpec.ofChange fnExactWaySpec)

/-- ITS FALSE NEIGHBOUR: 'it returns false'. Refute it at one input. -/
def fnExactWayWrong : ChangeSpec := { name := "fnExactWay", fn := fun _ => fun
  | [d1, d2] => { results := [.lit (.bool false)], args := [d1, d2] }
  | _ => none }
def FnExactWayWrongFalsely : Prop := fnExactWayRow.holds Tryd.pinned (OpenSpec.ofChange fnExactWayWrong)

/-- 'laws.FnExactGathered': WHATEVER THE INPUT: true; the input reads as it did. -/
def fnExactGatheredSpec : ChangeSpec := { name := "fnExactGathered", fn := fun _ => fun
  | [d1, d2] => { results := [.lit (.bool true)], args := [d1, d2] }
  | _ => none }
def fnExactGatheredRow : OpenClaim := { program := "ytcegobkangpilaadoor", sum := "2c30df8aa492063db79a03b3962acc0f705f2c0a3a05ba42a2b93d223e8161fb", func := "loop.example/g00217/laws.FnExactGathered", spec := "fnExactGathered", unfollowed := true, recurses := true, named := ["internal/strconv.uint64pow10", "math/bits.deBruijn32tab", "math/bits.deBruijn64tab"], apart := false, laid := [("math/bits.deBruijn32tab", laid_math_bits_deBruijn32tab), ("math/bits.deBruijn64tab", laid_math_bits_deBruijn64tab), ("internal/strconv.uint64pow10", laid_internal_strconv_uint64pow10)] }
def FnExactGatheredSaid : Prop := fnExactGatheredRow.holds Tryd.pinned (OpenSpec.ofChange fnExactGatheredSpec)

/-- ITS FALSE NEIGHBOUR: 'it returns false'. Refute it at one input. -/
def fnExactGatheredWrong : ChangeSpec := { name := "fnExactGathered", fn := fun _ => fun
  | [d1, d2] => { results := [.lit (.bool false)], args := [d1, d2] }
  | _ => none }
def FnExactGatheredWrongFalsely : Prop := fnExactGatheredRow.holds Tryd.pinned (OpenSpec.ofChange fnExactGatheredWrong)

/-- 'laws.FnExactBlockOk': WHATEVER THE INPUT: true; the input reads as it did. -/
def fnExactBlockOkSpec : ChangeSpec := { name := "fnExactBlockOk", fn := fun _ => fun
  | [d1, d2] => { results := [.lit (.bool true)], args := [d1, d2] }
  | _ => none }
def fnExactBlockOkRow : OpenClaim := { program := "ytcegobkangpilaadoor", sum := "2c30df8aa492063db79a03b3962acc0f705f2c0a3a05ba42a2b93d223e8161fb", func := "loop.example/g00217/laws.FnExactBlockOk", spec := "fnExactBlockOk", unfollowed := true, recurses := true, named := ["internal/strconv.uint64pow10", "math/bits.deBruijn32tab", "math/bits.deBruijn64tab"], apart := false, laid := [("math/bits.deBruijn32tab", laid_math_bits_deBruijn32tab), ("math/bits.deBruijn64tab", laid_math_bits_deBruijn64tab), ("internal/strconv.uint64pow10", laid_internal_strconv_uint64pow10)] }
def FnExactBlockOkSaid : Prop := fnExactBlockOkRow.holds Tryd.pinned (OpenSpec.ofChange fnExactBlockOkSpec)

/-- ITS FALSE NEIGHBOUR: 'it returns false'. Refute it at one input. -/
def fnExactBlockOkWrong : ChangeSpec := { name := "fnExactBlockOk", fn := fun _ => fun
  | [d1, d2] => { results := [.lit (.bool false)], args := [d1, d2] }
  | _ => none }
def FnExactBlockOkWrongFalsely : Prop := fnExactBlockOkRow.holds Tryd.pinned (OpenSpec.ofChange fnExactBlockOkWrong)

/-- 'laws.FnProofs': WHATEVER THE INPUT: true; the input reads as it did. -/
def fnProofsSpec : ChangeSpec := { name := "fnProofs", fn := fun _ => fun
  | [d] => { results := [.lit (.bool true)], args := [d] }
  | _ => none }
def fnProofsRow : OpenClaim := { program := "ytcegobkangpilaadoor", sum := "2c30df8aa492063db79a03b3962acc0f705f2c0a3a05ba42a2b93d223e8161fb", func := "loop.example/g00217/laws.FnProofs", spec := "fnProofs", unfollowed := true, recurses := true, named := ["internal/strconv.uint64pow10", "math/bits.deBruijn32tab", "math/bits.deBruijn64tab"], apart := false, laid := [("math/bits.deBruijn32tab", laid_math_bits_deBruijn32tab), ("math/bits.deBruijn64tab", laid_math_bits_deBruijn64tab), ("internal/strconv.uint64pow10", laid_internal_strconv_uint64pow10)] }
def FnProofsSaid : Prop := fnProofsRow.holds Tryd.pinned (OpenSpec.ofChange fnProofsSpec)

/-- ITS FALSE NEIGHBOUR: 'it returns false'. Refute it at one input. -/
def fnProofsWrong : ChangeSpec := { name := "fnProofs", fn := fun _ => fun
  | [d] => { results := [.lit (.bool false)], args := [d] }
  | _ => none }
def FnProofsWrongFalsely : Prop := fnProofsRow.holds Tryd.pinned (OpenSpec.ofChange fnProofsWrong)

/- THE SECOND FORM. 'bulk': how many values and letters a reading holds, each counted each time it is reached (what is shared counts as often as it is met; a slice's spare places count too). A statement '..UptoSaid' is the law's where the arguments, and the package variables that the reading takes, are together of bulk at most 1048576: NARROWER than '..Said'. Prove '..Said' where nothing that the law and all that it calls make is longer than what came in: it says more and counts as full. Else prove '..UptoSaid'. A law counts once. -/
mutual
def uptoBulk {H : Type} : DataW H → Nat
  | .lit (.string bytes) => bytes.length + 1
  | .lit _ => 1
  | .nil => 1
  | .ptr d => uptoBulk d + 1
  | .slice elems spare => uptoBulkAll elems + uptoBulkAll spare + 1
  | .agg parts => uptoBulkAll parts + 1
  | .iface _ d => uptoBulk d + 1
  | .map entries => uptoBulkEntries entries + 1
  | .held _ => 1
def uptoBulkAll {H : Type} : List (DataW H) → Nat
  | [] => 0
  | d :: r => uptoBulk d + uptoBulkAll r
def uptoBulkEntries {H : Type} : List (Lit × DataW H) → Nat
  | [] => 0
  | x :: r => uptoBulkEntry x + uptoBulkEntries r
def uptoBulkEntry {H : Type} : Lit × DataW H → Nat
  | (.string bytes, d) => bytes.length + uptoBulk d + 1
  | (_, d) => uptoBulk d + 1
 end
def uptoSmall : (H : Type) → List (DataW H) → Bool := fun _ ds => decide (uptoBulkAll ds ≤ 1048576)
def OpenSpec.upto (s : _root_.Go.ChangeSpec) : _root_.Go.OpenSpec := { _root_.Go.OpenSpec.ofChange s with cond := some uptoSmall }

/-- 'laws.FnExactRecord', WHERE WHAT IT READS IS OF BULK AT MOST 1048576: true; the input reads as it did. -/
def fnExactRecordUptoRow : OpenClaim := { program := "ytcegobkangpilaadoor", sum := "2c30df8aa492063db79a03b3962acc0f705f2c0a3a05ba42a2b93d223e8161fb", func := "loop.example/g00217/laws.FnExactRecord", spec := "fnExactRecord", named := ["internal/strconv.uint64pow10", "math/bits.deBruijn32tab", "math/bits.deBruijn64tab"], apart := false, laid := [("math/bits.deBruijn32tab", laid_math_bits_deBruijn32tab), ("math/bits.deBruijn64tab", laid_math_bits_deBruijn64tab), ("internal/strconv.uint64pow10", laid_internal_strconv_uint64pow10)], narrowed := true }
def FnExactRecordUptoSaid : Prop := fnExactRecordUptoRow.holds Tryd.pinned (OpenSpec.upto fnExactRecordSpec)

/-- 'laws.FnExactShowMove', WHERE WHAT IT READS IS OF BULK AT MOST 1048576: true; the input reads as it did. -/
def fnExactShowMoveUptoRow : OpenClaim := { program := "ytcegobkangpilaadoor", sum := "2c30df8aa492063db79a03b3962acc0f705f2c0a3a05ba42a2b93d223e8161fb", func := "loop.example/g00217/laws.FnExactShowMove", spec := "fnExactShowMove", named := ["internal/strconv.uint64pow10", "math/bits.deBruijn32tab", "math/bits.deBruijn64tab"], apart := false, laid := [("math/bits.deBruijn32tab", laid_math_bits_deBruijn32tab), ("math/bits.deBruijn64tab", laid_math_bits_deBruijn64tab), ("internal/strconv.uint64pow10", laid_internal_strconv_uint64pow10)], narrowed := true }
def FnExactShowMoveUptoSaid : Prop := fnExactShowMoveUptoRow.holds Tryd.pinned (OpenSpec.upto fnExactShowMoveSpec)

/-- 'laws.FnExactVoteOk', WHERE WHAT IT READS IS OF BULK AT MOST 1048576: true; the input reads as it did. -/
def fnExactVoteOkUptoRow : OpenClaim := { program := "ytcegobkangpilaadoor", sum := "2c30df8aa492063db79a03b3962acc0f705f2c0a3a05ba42a2b93d223e8161fb", func := "loop.example/g00217/laws.FnExactVoteOk", spec := "fnExactVoteOk", named := ["internal/strconv.uint64pow10", "math/bits.deBruijn32tab", "math/bits.deBruijn64tab"], apart := false, laid := [("math/bits.deBruijn32tab", laid_math_bits_deBruijn32tab), ("math/bits.deBruijn64tab", laid_math_bits_deBruijn64tab), ("internal/strconv.uint64pow10", laid_internal_strconv_uint64pow10)], narrowed := true }
def FnExactVoteOkUptoSaid : Prop := fnExactVoteOkUptoRow.holds Tryd.pinned (OpenSpec.upto fnExactVoteOkSpec)

/-- 'laws.FnExactVoted', WHERE WHAT IT READS IS OF BULK AT MOST 1048576: true; the input reads as it did. -/
def fnExactVotedUptoRow : OpenClaim := { program := "ytcegobkangpilaadoor", sum := "2c30df8aa492063db79a03b3962acc0f705f2c0a3a05ba42a2b93d223e8161fb", func := "loop.example/g00217/laws.FnExactVoted", spec := "fnExactVoted", named := ["internal/strconv.uint64pow10", "math/bits.deBruijn32tab", "math/bits.deBruijn64tab"], apart := false, laid := [("math/bits.deBruijn32tab", laid_math_bits_deBruijn32tab), ("math/bits.deBruijn64tab", laid_math_bits_deBruijn64tab), ("internal/strconv.uint64pow10", laid_internal_strconv_uint64pow10)], narrowed := true }
def FnExactVotedUptoSaid : Prop := fnExactVotedUptoRow.holds Tryd.pinned (OpenSpec.upto fnExactVotedSpec)

/-- 'laws.FnExactHolds', WHERE WHAT IT READS IS OF BULK AT MOST 1048576: true; the input reads as it did. -/
def fnExactHoldsUptoRow : OpenClaim := { program := "ytcegobkangpilaadoor", sum := "2c30df8aa492063db79a03b3962acc0f705f2c0a3a05ba42a2b93d223e8161fb", func := "loop.example/g00217/laws.FnExactHolds", spec := "fnExactHolds", named := ["internal/strconv.uint64pow10", "math/bits.deBruijn32tab", "math/bits.deBruijn64tab"], apart := false, laid := [("math/bits.deBruijn32tab", laid_math_bits_deBruijn32tab), ("math/bits.deBruijn64tab", laid_math_bits_deBruijn64tab), ("internal/strconv.uint64pow10", laid_internal_strconv_uint64pow10)], narrowed := true }
def FnExactHoldsUptoSaid : Prop := fnExactHoldsUptoRow.holds Tryd.pinned (OpenSpec.upto fnExactHoldsSpec)

/-- 'laws.FnExactPeak', WHERE WHAT IT READS IS OF BULK AT MOST 1048576: true; the input reads as it did. -/
def fnExactPeakUptoRow : OpenClaim := { program := "ytcegobkangpilaadoor", sum := "2c30df8aa492063db79a03b3962acc0f705f2c0a3a05ba42a2b93d223e8161fb", func := "loop.example/g00217/laws.FnExactPeak", spec := "fnExactPeak", named := ["internal/strconv.uint64pow10", "math/bits.deBruijn32tab", "math/bits.deBruijn64tab"], apart := false, laid := [("math/bits.deBruijn32tab", laid_math_bits_deBruijn32tab), ("math/bits.deBruijn64tab", laid_math_bits_deBruijn64tab), ("internal/strconv.uint64pow10", laid_internal_strconv_uint64pow10)], narrowed := true }
def FnExactPeakUptoSaid : Prop := fnExactPeakUptoRow.holds Tryd.pinned (OpenSpec.upto fnExactPeakSpec)

/-- 'laws.FnExactProofOk', WHERE WHAT IT READS IS OF BULK AT MOST 1048576: true; the input reads as it did. -/
def fnExactProofOkUptoRow : OpenClaim := { program := "ytcegobkangpilaadoor", sum := "2c30df8aa492063db79a03b3962acc0f705f2c0a3a05ba42a2b93d223e8161fb", func := "loop.example/g00217/laws.FnExactProofOk", spec := "fnExactProofOk", named := ["internal/strconv.uint64pow10", "math/bits.deBruijn32tab", "math/bits.deBruijn64tab"], apart := false, laid := [("math/bits.deBruijn32tab", laid_math_bits_deBruijn32tab), ("math/bits.deBruijn64tab", laid_math_bits_deBruijn64tab), ("internal/strconv.uint64pow10", laid_internal_strconv_uint64pow10)], narrowed := true }
def FnExactProofOkUptoSaid : Prop := fnExactProofOkUptoRow.holds Tryd.pinned (OpenSpec.upto fnExactProofOkSpec)

/-- 'laws.FnExactParted', WHERE WHAT IT READS IS OF BULK AT MOST 1048576: true; the input reads as it did. -/
def fnExactPartedUptoRow : OpenClaim := { program := "ytcegobkangpilaadoor", sum := "2c30df8aa492063db79a03b3962acc0f705f2c0a3a05ba42a2b93d223e8161fb", func := "loop.example/g00217/laws.FnExactParted", spec := "fnExactParted", named := ["internal/strconv.uint64pow10", "math/bits.deBruijn32tab", "math/bits.deBruijn64tab"], apart := false, laid := [("math/bits.deBruijn32tab", laid_math_bits_deBruijn32tab), ("math/bits.deBruijn64tab", laid_math_bits_deBruijn64tab), ("internal/strconv.uint64pow10", laid_internal_strconv_uint64pow10)], narrowed := true }
def FnExactPartedUptoSaid : Prop := fnExactPartedUptoRow.holds Tryd.pinned (OpenSpec.upto fnExactPartedSpec)

/-- 'laws.FnExactWay', WHERE WHAT IT READS IS OF BULK AT MOST 1048576: true; the input reads as it did. -/
def fnExactWayUptoRow : OpenClaim := { program := "ytcegobkangpilaadoor", sum := "2c30df8aa492063db79a03b3962acc0f705f2c0a3a05ba42a2b93d223e8161fb", func := "loop.example/g00217/laws.FnExactWay", spec := "fnExactWay", named := ["internal/strconv.uint64pow10", "math/bits.deBruijn32tab", "math/bits.deBruijn64tab"], apart := false, laid := [("math/bits.deBruijn32tab", laid_math_bits_deBruijn32tab), ("math/bits.deBruijn64tab", laid_math_bits_deBruijn64tab), ("internal/strconv.uint64pow10", laid_internal_strconv_uint64pow10)], narrowed := true }
def FnExactWayUptoSaid : Prop := fnExactWayUptoRow.holds Tryd.pinned (OpenSpec.upto fnExactWaySpec)

/-- 'laws.FnExactGathered', WHERE WHAT IT READS IS OF BULK AT MOST 1048576: true; the input reads as it did. -/
def fnExactGatheredUptoRow : OpenClaim := { program := "ytcegobkangpilaadoor", sum := "2c30df8aa492063db79a03b3962acc0f705f2c0a3a05ba42a2b93d223e8161fb", func := "loop.example/g00217/laws.FnExactGathered", spec := "fnExactGathered", unfollowed := true, recurses := true, named := ["internal/strconv.uint64pow10", "math/bits.deBruijn32tab", "math/bits.deBruijn64tab"], apart := false, laid := [("math/bits.deBruijn32tab", laid_math_bits_deBruijn32tab), ("math/bits.deBruijn64tab", laid_math_bits_deBruijn64tab), ("internal/strconv.uint64pow10", laid_internal_strconv_uint64pow10)], narrowed := true }
def FnExactGatheredUptoSaid : Prop := fnExactGatheredUptoRow.holds Tryd.pinned (OpenSpec.upto fnExactGatheredSpec)

/-- 'laws.FnExactBlockOk', WHERE WHAT IT READS IS OF BULK AT MOST 1048576: true; the input reads as it did. -/
def fnExactBlockOkUptoRow : OpenClaim := { program := "ytcegobkangpilaadoor", sum := "2c30df8aa492063db79a03b3962acc0f705f2c0a3a05ba42a2b93d223e8161fb", func := "loop.example/g00217/laws.FnExactBlockOk", spec := "fnExactBlockOk", unfollowed := true, recurses := true, named := ["internal/strconv.uint64pow10", "math/bits.deBruijn32tab", "math/bits.deBruijn64tab"], apart := false, laid := [("math/bits.deBruijn32tab", laid_math_bits_deBruijn32tab), ("math/bits.deBruijn64tab", laid_math_bits_deBruijn64tab), ("internal/strconv.uint64pow10", laid_internal_strconv_uint64pow10)], narrowed := true }
def FnExactBlockOkUptoSaid : Prop := fnExactBlockOkUptoRow.holds Tryd.pinned (OpenSpec.upto fnExactBlockOkSpec)

/-- 'laws.FnProofs', WHERE WHAT IT READS IS OF BULK AT MOST 1048576: true; the input reads as it did. -/
def fnProofsUptoRow : OpenClaim := { program := "ytcegobkangpilaadoor", sum := "2c30df8aa492063db79a03b3962acc0f705f2c0a3a05ba42a2b93d223e8161fb", func := "loop.example/g00217/laws.FnProofs", spec := "fnProofs", unfollowed := true, recurses := true, named := ["internal/strconv.uint64pow10", "math/bits.deBruijn32tab", "math/bits.deBruijn64tab"], apart := false, laid := [("math/bits.deBruijn32tab", laid_math_bits_deBruijn32tab), ("math/bits.deBruijn64tab", laid_math_bits_deBruijn64tab), ("internal/strconv.uint64pow10", laid_internal_strconv_uint64pow10)], narrowed := true }
def FnProofsUptoSaid : Prop := fnProofsUptoRow.holds Tryd.pinned (OpenSpec.upto fnProofsSpec)

end Rows
end Go.Proofs.YtcegobkangpilaaDoor
