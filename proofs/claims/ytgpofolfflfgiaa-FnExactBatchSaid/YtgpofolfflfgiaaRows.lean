/-
  No cell of these rows narrows 'for every input' (looked for: loops, veiled, ifaces, maps, wideKeys, modest, calm, conditions, laid).
  DERIVED. THE GIVEN ROWS OF THIS SEAT. 11 by the template 'for every input the law returns true; each argument reads behind the call as it read before'; 0 by the template 'total and deterministic' (their statements: YtgpofolfflfgiaaTotals.lean).
  GIVEN WITH THE SEED: the statements are not yours to turn. If you find one false, say at which input.
  Laid BY PROGRAM, IN A SANDBOX (cutbox-rows.mjs): the forced cells as the released guide's own fill.sh prints them over the translation 767c4ccb2d7905a1… (all of the seat's roots in one cut). By AI agents, Wed Nov 11 2026. No macro, syntax, notation, axiom, sorry.
-/
import Derived.Test.YtgpofolfflfgiaaChecked
import GoSem.Claim
import GoSem.ClaimJoined
import GoSem.ClaimMapViews
import Derived.JoinedTies
import Derived.KernelRfl
namespace Go.Proofs.Ytgpofolfflfgiaa
/- THE CELL 'sum', in the pinned program and in every row, IS THE sha256 OF THE DUMP (.gsa) THAT YtgpofolfflfgiaaProg.lean LOADS. Nothing in Lean hashes anything: it is a label: what it is worth is what the hold of that sum in a sandbox is worth. -/
noncomputable def Try.pinned : Pinned := { name := "ytgpofolfflfgiaa", sum := "767c4ccb2d7905a1f6265cad4893da736e8a4d33cc9153c76fd495a454be0c59", checked := Try.checked }
namespace Rows
def none {H : Type} : Left H := { results := [], args := [] }

/-- 'laws.FnExactQuorum': WHATEVER THE INPUT: true; the input reads as it did. -/
def fnExactQuorumSpec : ChangeSpec := { name := "fnExactQuorum", fn := fun _ => fun
  | [d] => { results := [.lit (.bool true)], args := [d] }
  | _ => none }
def fnExactQuorumRow : OpenClaim := { program := "ytgpofolfflfgiaa", sum := "767c4ccb2d7905a1f6265cad4893da736e8a4d33cc9153c76fd495a454be0c59", func := "loop.example/g00217/laws.FnExactQuorum", spec := "fnExactQuorum", apart := false }
def FnExactQuorumSaid : Prop := fnExactQuorumRow.holds Try.pinned (OpenSpec.ofChange fnExactQuorumSpec)

/-- ITS FALSE NEIGHBOUR: 'it returns false'. Refute it at one input. -/
def fnExactQuorumWrong : ChangeSpec := { name := "fnExactQuorum", fn := fun _ => fun
  | [d] => { results := [.lit (.bool false)], args := [d] }
  | _ => none }
def FnExactQuorumWrongFalsely : Prop := fnExactQuorumRow.holds Try.pinned (OpenSpec.ofChange fnExactQuorumWrong)

/-- 'laws.FnExactMoveOk': WHATEVER THE INPUT: true; the input reads as it did. -/
def fnExactMoveOkSpec : ChangeSpec := { name := "fnExactMoveOk", fn := fun _ => fun
  | [d] => { results := [.lit (.bool true)], args := [d] }
  | _ => none }
def fnExactMoveOkRow : OpenClaim := { program := "ytgpofolfflfgiaa", sum := "767c4ccb2d7905a1f6265cad4893da736e8a4d33cc9153c76fd495a454be0c59", func := "loop.example/g00217/laws.FnExactMoveOk", spec := "fnExactMoveOk", apart := false }
def FnExactMoveOkSaid : Prop := fnExactMoveOkRow.holds Try.pinned (OpenSpec.ofChange fnExactMoveOkSpec)

/-- ITS FALSE NEIGHBOUR: 'it returns false'. Refute it at one input. -/
def fnExactMoveOkWrong : ChangeSpec := { name := "fnExactMoveOk", fn := fun _ => fun
  | [d] => { results := [.lit (.bool false)], args := [d] }
  | _ => none }
def FnExactMoveOkWrongFalsely : Prop := fnExactMoveOkRow.holds Try.pinned (OpenSpec.ofChange fnExactMoveOkWrong)

/-- 'laws.FnQuorums': WHATEVER THE INPUT: true; the input reads as it did. -/
def fnQuorumsSpec : ChangeSpec := { name := "fnQuorums", fn := fun _ => fun
  | [d] => { results := [.lit (.bool true)], args := [d] }
  | _ => none }
def fnQuorumsRow : OpenClaim := { program := "ytgpofolfflfgiaa", sum := "767c4ccb2d7905a1f6265cad4893da736e8a4d33cc9153c76fd495a454be0c59", func := "loop.example/g00217/laws.FnQuorums", spec := "fnQuorums", apart := false }
def FnQuorumsSaid : Prop := fnQuorumsRow.holds Try.pinned (OpenSpec.ofChange fnQuorumsSpec)

/-- ITS FALSE NEIGHBOUR: 'it returns false'. Refute it at one input. -/
def fnQuorumsWrong : ChangeSpec := { name := "fnQuorums", fn := fun _ => fun
  | [d] => { results := [.lit (.bool false)], args := [d] }
  | _ => none }
def FnQuorumsWrongFalsely : Prop := fnQuorumsRow.holds Try.pinned (OpenSpec.ofChange fnQuorumsWrong)

/-- 'laws.FnExactLeavesOk': WHATEVER THE INPUT: true; the input reads as it did. -/
def fnExactLeavesOkSpec : ChangeSpec := { name := "fnExactLeavesOk", fn := fun _ => fun
  | [d] => { results := [.lit (.bool true)], args := [d] }
  | _ => none }
def fnExactLeavesOkRow : OpenClaim := { program := "ytgpofolfflfgiaa", sum := "767c4ccb2d7905a1f6265cad4893da736e8a4d33cc9153c76fd495a454be0c59", func := "loop.example/g00217/laws.FnExactLeavesOk", spec := "fnExactLeavesOk", apart := false }
def FnExactLeavesOkSaid : Prop := fnExactLeavesOkRow.holds Try.pinned (OpenSpec.ofChange fnExactLeavesOkSpec)

/-- ITS FALSE NEIGHBOUR: 'it returns false'. Refute it at one input. -/
def fnExactLeavesOkWrong : ChangeSpec := { name := "fnExactLeavesOk", fn := fun _ => fun
  | [d] => { results := [.lit (.bool false)], args := [d] }
  | _ => none }
def FnExactLeavesOkWrongFalsely : Prop := fnExactLeavesOkRow.holds Try.pinned (OpenSpec.ofChange fnExactLeavesOkWrong)

/-- 'laws.FnExactPoolOk': WHATEVER THE INPUT: true; the input reads as it did. -/
def fnExactPoolOkSpec : ChangeSpec := { name := "fnExactPoolOk", fn := fun _ => fun
  | [d] => { results := [.lit (.bool true)], args := [d] }
  | _ => none }
def fnExactPoolOkRow : OpenClaim := { program := "ytgpofolfflfgiaa", sum := "767c4ccb2d7905a1f6265cad4893da736e8a4d33cc9153c76fd495a454be0c59", func := "loop.example/g00217/laws.FnExactPoolOk", spec := "fnExactPoolOk", apart := false }
def FnExactPoolOkSaid : Prop := fnExactPoolOkRow.holds Try.pinned (OpenSpec.ofChange fnExactPoolOkSpec)

/-- ITS FALSE NEIGHBOUR: 'it returns false'. Refute it at one input. -/
def fnExactPoolOkWrong : ChangeSpec := { name := "fnExactPoolOk", fn := fun _ => fun
  | [d] => { results := [.lit (.bool false)], args := [d] }
  | _ => none }
def FnExactPoolOkWrongFalsely : Prop := fnExactPoolOkRow.holds Try.pinned (OpenSpec.ofChange fnExactPoolOkWrong)

/-- 'laws.FnExactBankOk': WHATEVER THE INPUT: true; the input reads as it did. -/
def fnExactBankOkSpec : ChangeSpec := { name := "fnExactBankOk", fn := fun _ => fun
  | [d] => { results := [.lit (.bool true)], args := [d] }
  | _ => none }
def fnExactBankOkRow : OpenClaim := { program := "ytgpofolfflfgiaa", sum := "767c4ccb2d7905a1f6265cad4893da736e8a4d33cc9153c76fd495a454be0c59", func := "loop.example/g00217/laws.FnExactBankOk", spec := "fnExactBankOk", unfollowed := true, recurses := true, apart := false }
def FnExactBankOkSaid : Prop := fnExactBankOkRow.holds Try.pinned (OpenSpec.ofChange fnExactBankOkSpec)

/-- ITS FALSE NEIGHBOUR: 'it returns false'. Refute it at one input. -/
def fnExactBankOkWrong : ChangeSpec := { name := "fnExactBankOk", fn := fun _ => fun
  | [d] => { results := [.lit (.bool false)], args := [d] }
  | _ => none }
def FnExactBankOkWrongFalsely : Prop := fnExactBankOkRow.holds Try.pinned (OpenSpec.ofChange fnExactBankOkWrong)

/-- 'laws.FnExactTotal': WHATEVER THE INPUT: true; the input reads as it did. -/
def fnExactTotalSpec : ChangeSpec := { name := "fnExactTotal", fn := fun _ => fun
  | [d] => { results := [.lit (.bool true)], args := [d] }
  | _ => none }
def fnExactTotalRow : OpenClaim := { program := "ytgpofolfflfgiaa", sum := "767c4ccb2d7905a1f6265cad4893da736e8a4d33cc9153c76fd495a454be0c59", func := "loop.example/g00217/laws.FnExactTotal", spec := "fnExactTotal", unfollowed := true, recurses := true, apart := false }
def FnExactTotalSaid : Prop := fnExactTotalRow.holds Try.pinned (OpenSpec.ofChange fnExactTotalSpec)

/-- ITS FALSE NEIGHBOUR: 'it returns false'. Refute it at one input. -/
def fnExactTotalWrong : ChangeSpec := { name := "fnExactTotal", fn := fun _ => fun
  | [d] => { results := [.lit (.bool false)], args := [d] }
  | _ => none }
def FnExactTotalWrongFalsely : Prop := fnExactTotalRow.holds Try.pinned (OpenSpec.ofChange fnExactTotalWrong)

/-- 'laws.FnExactNewBank': WHATEVER THE INPUT: true; the input reads as it did. -/
def fnExactNewBankSpec : ChangeSpec := { name := "fnExactNewBank", fn := fun _ => fun
  | [] => { results := [.lit (.bool true)], args := [] }
  | _ => none }
def fnExactNewBankRow : OpenClaim := { program := "ytgpofolfflfgiaa", sum := "767c4ccb2d7905a1f6265cad4893da736e8a4d33cc9153c76fd495a454be0c59", func := "loop.example/g00217/laws.FnExactNewBank", spec := "fnExactNewBank", apart := false }
def FnExactNewBankSaid : Prop := fnExactNewBankRow.holds Try.pinned (OpenSpec.ofChange fnExactNewBankSpec)

/-- ITS FALSE NEIGHBOUR: 'it returns false'. Refute it at one input. -/
def fnExactNewBankWrong : ChangeSpec := { name := "fnExactNewBank", fn := fun _ => fun
  | [] => { results := [.lit (.bool false)], args := [] }
  | _ => none }
def FnExactNewBankWrongFalsely : Prop := fnExactNewBankRow.holds Try.pinned (OpenSpec.ofChange fnExactNewBankWrong)

/-- 'laws.FnExactOffered': WHATEVER THE INPUT: true; the input reads as it did. -/
def fnExactOfferedSpec : ChangeSpec := { name := "fnExactOffered", fn := fun _ => fun
  | [d1, d2] => { results := [.lit (.bool true)], args := [d1, d2] }
  | _ => none }
def fnExactOfferedRow : OpenClaim := { program := "ytgpofolfflfgiaa", sum := "767c4ccb2d7905a1f6265cad4893da736e8a4d33cc9153c76fd495a454be0c59", func := "loop.example/g00217/laws.FnExactOffered", spec := "fnExactOffered", apart := false }
def FnExactOfferedSaid : Prop := fnExactOfferedRow.holds Try.pinned (OpenSpec.ofChange fnExactOfferedSpec)

/-- ITS FALSE NEIGHBOUR: 'it returns false'. Refute it at one input. -/
def fnExactOfferedWrong : ChangeSpec := { name := "fnExactOffered", fn := fun _ => fun
  | [d1, d2] => { results := [.lit (.bool false)], args := [d1, d2] }
  | _ => none }
def FnExactOfferedWrongFalsely : Prop := fnExactOfferedRow.holds Try.pinned (OpenSpec.ofChange fnExactOfferedWrong)

/-- 'laws.FnExactNext': WHATEVER THE INPUT: true; the input reads as it did. -/
def fnExactNextSpec : ChangeSpec := { name := "fnExactNext", fn := fun _ => fun
  | [d] => { results := [.lit (.bool true)], args := [d] }
  | _ => none }
def fnExactNextRow : OpenClaim := { program := "ytgpofolfflfgiaa", sum := "767c4ccb2d7905a1f6265cad4893da736e8a4d33cc9153c76fd495a454be0c59", func := "loop.example/g00217/laws.FnExactNext", spec := "fnExactNext", apart := false }
def FnExactNextSaid : Prop := fnExactNextRow.holds Try.pinned (OpenSpec.ofChange fnExactNextSpec)

/-- ITS FALSE NEIGHBOUR: 'it returns false'. Refute it at one input. -/
def fnExactNextWrong : ChangeSpec := { name := "fnExactNext", fn := fun _ => fun
  | [d] => { results := [.lit (.bool false)], args := [d] }
  | _ => none }
def FnExactNextWrongFalsely : Prop := fnExactNextRow.holds Try.pinned (OpenSpec.ofChange fnExactNextWrong)

/-- 'laws.FnExactBatch': WHATEVER THE INPUT: true; the input reads as it did. -/
def fnExactBatchSpec : ChangeSpec := { name := "fnExactBatch", fn := fun _ => fun
  | [d] => { results := [.lit (.bool true)], args := [d] }
  | _ => none }
def fnExactBatchRow : OpenClaim := { program := "ytgpofolfflfgiaa", sum := "767c4ccb2d7905a1f6265cad4893da736e8a4d33cc9153c76fd495a454be0c59", func := "loop.example/g00217/laws.FnExactBatch", spec := "fnExactBatch", unfollowed := true, recurses := true, apart := false }
def FnExactBatchSaid : Prop := fnExactBatchRow.holds Try.pinned (OpenSpec.ofChange fnExactBatchSpec)

/-- ITS FALSE NEIGHBOUR: 'it returns false'. Refute it at one input. -/
def fnExactBatchWrong : ChangeSpec := { name := "fnExactBatch", fn := fun _ => fun
  | [d] => { results := [.lit (.bool false)], args := [d] }
  | _ => none }
def FnExactBatchWrongFalsely : Prop := fnExactBatchRow.holds Try.pinned (OpenSpec.ofChange fnExactBatchWrong)

/- THE SECOND FORM. 'bulk': how many values and letters a reading holds, each counted each time it is reached (what is shared counts as often as it is met; a slice's spare places count too). A statement '..UptoSaid' is the law's where the arguments, and the package variables that the reading takes, are together of bulk at most 1048576: NARROWER than '..Said'. Prove '..Said' where nothing that the law and all that it calls make is longer than what came in: it says more and counts as full. Else prove '..UptoSaid'. A law counts once. -/
mutual
def uptoBulk {H : Type} : DataW H → Nat
  | .lit (.string bytes) => bytes.length + 1
  | .lit _ => 1
  | .nil => 1
  | .ptr d => uptoBulk d + 1
  | .slice elems spare => uptoBulkAll elems + uptoBulkAll spare + 1
  | .agg parts => uptoBulkAll parts + 1
  | .iface _ d => uptoBulk d + 1
  | .map entries => uptoBulkEntries entries + 1
  | .held _ => 1
def uptoBulkAll {H : Type} : List (DataW H) → Nat
  | [] => 0
  | d :: r => uptoBulk d + uptoBulkAll r
def uptoBulkEntries {H : Type} : List (Lit × DataW H) → Nat
  | [] => 0
  | x :: r => uptoBulkEntry x + uptoBulkEntries r
def uptoBulkEntry {H : Type} : Lit × DataW H → Nat
  | (.string bytes, d) => bytes.length + uptoBulk d + 1
  | (_, d) => uptoBulk d + 1
 end
def uptoSmall : (H : Type) → List (DataW H) → Bool := fun _ ds => decide (uptoBulkAll ds ≤ 1048576)
def OpenSpec.upto (s : _root_.Go.ChangeSpec) : _root_.Go.OpenSpec := { _root_.Go.OpenSpec.ofChange s with cond := some uptoSmall }

/-- 'laws.FnExactQuorum', WHERE WHAT IT READS IS OF BULK AT MOST 1048576: true; the input reads as it did. -/
def fnExactQuorumUptoRow : OpenClaim := { program := "ytgpofolfflfgiaa", sum := "767c4ccb2d7905a1f6265cad4893da736e8a4d33cc9153c76fd495a454be0c59", func := "loop.example/g00217/laws.FnExactQuorum", spec := "fnExactQuorum", apart := false, narrowed := true }
def FnExactQuorumUptoSaid : Prop := fnExactQuorumUptoRow.holds Try.pinned (OpenSpec.upto fnExactQuorumSpec)

/-- 'laws.FnExactMoveOk', WHERE WHAT IT READS IS OF BULK AT MOST 1048576: true; the input reads as it did. -/
def fnExactMoveOkUptoRow : OpenClaim := { program := "ytgpofolfflfgiaa", sum := "767c4ccb2d7905a1f6265cad4893da736e8a4d33cc9153c76fd495a454be0c59", func := "loop.example/g00217/laws.FnExactMoveOk", spec := "fnExactMoveOk", apart := false, narrowed := true }
def FnExactMoveOkUptoSaid : Prop := fnExactMoveOkUptoRow.holds Try.pinned (OpenSpec.upto fnExactMoveOkSpec)

/-- 'laws.FnQuorums', WHERE WHAT IT READS IS OF BULK AT MOST 1048576: true; the input reads as it did. -/
def fnQuorumsUptoRow : OpenClaim := { program := "ytgpofolfflfgiaa", sum := "767c4ccb2d7905a1f6265cad4893da736e8a4d33cc9153c76fd495a454be0c59", func := "loop.example/g00217/laws.FnQuorums", spec := "fnQuorums", apart := false, narrowed := true }
def FnQuorumsUptoSaid : Prop := fnQuorumsUptoRow.holds Try.pinned (OpenSpec.upto fnQuorumsSpec)

/-- 'laws.FnExactLeavesOk', WHERE WHAT IT READS IS OF BULK AT MOST 1048576: true; the input reads as it did. -/
def fnExactLeavesOkUptoRow : OpenClaim := { program := "ytgpofolfflfgiaa", sum := "767c4ccb2d7905a1f6265cad4893da736e8a4d33cc9153c76fd495a454be0c59", func := "loop.example/g00217/laws.FnExactLeavesOk", spec := "fnExactLeavesOk", apart := false, narrowed := true }
def FnExactLeavesOkUptoSaid : Prop := fnExactLeavesOkUptoRow.holds Try.pinned (OpenSpec.upto fnExactLeavesOkSpec)

/-- 'laws.FnExactPoolOk', WHERE WHAT IT READS IS OF BULK AT MOST 1048576: true; the input reads as it did. -/
def fnExactPoolOkUptoRow : OpenClaim := { program := "ytgpofolfflfgiaa", sum := "767c4ccb2d7905a1f6265cad4893da736e8a4d33cc9153c76fd495a454be0c59", func := "loop.example/g00217/laws.FnExactPoolOk", spec := "fnExactPoolOk", apart := false, narrowed := true }
def FnExactPoolOkUptoSaid : Prop := fnExactPoolOkUptoRow.holds Try.pinned (OpenSpec.upto fnExactPoolOkSpec)

/-- 'laws.FnExactBankOk', WHERE WHAT IT READS IS OF BULK AT MOST 1048576: true; the input reads as it did. -/
def fnExactBankOkUptoRow : OpenClaim := { program := "ytgpofolfflfgiaa", sum := "767c4ccb2d7905a1f6265cad4893da736e8a4d33cc9153c76fd495a454be0c59", func := "loop.example/g00217/laws.FnExactBankOk", spec := "fnExactBankOk", unfollowed := true, recurses := true, apart := false, narrowed := true }
def FnExactBankOkUptoSaid : Prop := fnExactBankOkUptoRow.holds Try.pinned (OpenSpec.upto fnExactBankOkSpec)

/-- 'laws.FnExactTotal', WHERE WHAT IT READS IS OF BULK AT MOST 1048576: true; the input reads as it did. -/
def fnExactTotalUptoRow : OpenClaim := { program := "ytgpofolfflfgiaa", sum := "767c4ccb2d7905a1f6265cad4893da736e8a4d33cc9153c76fd495a454be0c59", func := "loop.example/g00217/laws.FnExactTotal", spec := "fnExactTotal", unfollowed := true, recurses := true, apart := false, narrowed := true }
def FnExactTotalUptoSaid : Prop := fnExactTotalUptoRow.holds Try.pinned (OpenSpec.upto fnExactTotalSpec)

/-- 'laws.FnExactNewBank', WHERE WHAT IT READS IS OF BULK AT MOST 1048576: true; the input reads as it did. -/
def fnExactNewBankUptoRow : OpenClaim := { program := "ytgpofolfflfgiaa", sum := "767c4ccb2d7905a1f6265cad4893da736e8a4d33cc9153c76fd495a454be0c59", func := "loop.example/g00217/laws.FnExactNewBank", spec := "fnExactNewBank", apart := false, narrowed := true }
def FnExactNewBankUptoSaid : Prop := fnExactNewBankUptoRow.holds Try.pinned (OpenSpec.upto fnExactNewBankSpec)

/-- 'laws.FnExactOffered', WHERE WHAT IT READS IS OF BULK AT MOST 1048576: true; the input reads as it did. -/
def fnExactOfferedUptoRow : OpenClaim := { program := "ytgpofolfflfgiaa", sum := "767c4ccb2d7905a1f6265cad4893da736e8a4d33cc9153c76fd495a454be0c59", func := "loop.example/g00217/laws.FnExactOffered", spec := "fnExactOffered", apart := false, narrowed := true }
def FnExactOfferedUptoSaid : Prop := fnExactOfferedUptoRow.holds Try.pinned (OpenSpec.upto fnExactOfferedSpec)

/-- 'laws.FnExactNext', WHERE WHAT IT READS IS OF BULK AT MOST 1048576: true; the input reads as it did. -/
def fnExactNextUptoRow : OpenClaim := { program := "ytgpofolfflfgiaa", sum := "767c4ccb2d7905a1f6265cad4893da736e8a4d33cc9153c76fd495a454be0c59", func := "loop.example/g00217/laws.FnExactNext", spec := "fnExactNext", apart := false, narrowed := true }
def FnExactNextUptoSaid : Prop := fnExactNextUptoRow.holds Try.pinned (OpenSpec.upto fnExactNextSpec)

/-- 'laws.FnExactBatch', WHERE WHAT IT READS IS OF BULK AT MOST 1048576: true; the input reads as it did. -/
def fnExactBatchUptoRow : OpenClaim := { program := "ytgpofolfflfgiaa", sum := "767c4ccb2d7905a1f6265cad4893da736e8a4d33cc9153c76fd495a454be0c59", func := "loop.example/g00217/laws.FnExactBatch", spec := "fnExactBatch", unfollowed := true, recurses := true, apart := false, narrowed := true }
def FnExactBatchUptoSaid : Prop := fnExactBatchUptoRow.holds Try.pinned (OpenSpec.upto fnExactBatchSpec)

end Rows
end Go.Proofs.Ytgpofolfflfgiaa
