/-
  No cell of these rows narrows 'for every input' (looked for: loops, veiled, ifaces, maps, wideKeys, modest, calm, conditions, laid).
  DERIVED. THE GIVEN ROWS OF THIS SEAT. 9 by the template 'for every input the law returns true; each argument reads behind the call as it read before'; 0 by the template 'total and deterministic' (their statements: YtckgkhlgnblblaaTotals.lean).
  GIVEN WITH THE SEED: the statements are not yours to turn. If you find one false, say at which input.
  Laid BY PROGRAM, IN A SANDBOX (cutbox-rows.mjs): the forced cells as the released guide's own fill.sh prints them over the translation 8786a4e1c3ef476f… (all of the seat's roots in one cut). By AI agents, Wed Nov 11 2026. No macro, syntax, notation, axiom, sorry.
-/
import Derived.Test.YtckgkhlgnblblaaChecked
import GoSem.Claim
import GoSem.ClaimJoined
import GoSem.ClaimMapViews
import Derived.JoinedTies
import Derived.KernelRfl
namespace Go.Proofs.Ytckgkhlgnblblaa
/- THE CELL 'sum', in the pinned program and in every row, IS THE sha256 OF THE DUMP (.gsa) THAT YtckgkhlgnblblaaProg.lean LOADS. Nothing in Lean hashes anything: it is a label: what it is worth is what the hold of that sum in a sandbox is worth. -/
noncomputable def Try.pinned : Pinned := { name := "ytckgkhlgnblblaa", sum := "8786a4e1c3ef476f1bf43bbd796831f753fc9ba24044fbed78aa14d2dc5a76f0", checked := Try.checked }
namespace Rows
def none {H : Type} : Left H := { results := [], args := [] }

/-- 'laws.FnExactChosen': WHATEVER THE INPUT: true; the input reads as it did. -/
def fnExactChosenSpec : ChangeSpec := { name := "fnExactChosen", fn := fun _ => fun
  | [d1, d2] => { results := [.lit (.bool true)], args := [d1, d2] }
  | _ => none }
def fnExactChosenRow : OpenClaim := { program := "ytckgkhlgnblblaa", sum := "8786a4e1c3ef476f1bf43bbd796831f753fc9ba24044fbed78aa14d2dc5a76f0", func := "loop.example/g00217/laws.FnExactChosen", spec := "fnExactChosen", apart := false }
def FnExactChosenSaid : Prop := fnExactChosenRow.holds Try.pinned (OpenSpec.ofChange fnExactChosenSpec)

/-- ITS FALSE NEIGHBOUR: 'it returns false'. Refute it at one input. -/
def fnExactChosenWrong : ChangeSpec := { name := "fnExactChosen", fn := fun _ => fun
  | [d1, d2] => { results := [.lit (.bool false)], args := [d1, d2] }
  | _ => none }
def FnExactChosenWrongFalsely : Prop := fnExactChosenRow.holds Try.pinned (OpenSpec.ofChange fnExactChosenWrong)

/-- 'laws.FnExactShowBlock': WHATEVER THE INPUT: true; the input reads as it did. -/
def fnExactShowBlockSpec : ChangeSpec := { name := "fnExactShowBlock", fn := fun _ => fun
  | [d] => { results := [.lit (.bool true)], args := [d] }
  | _ => none }
def fnExactShowBlockRow : OpenClaim := { program := "ytckgkhlgnblblaa", sum := "8786a4e1c3ef476f1bf43bbd796831f753fc9ba24044fbed78aa14d2dc5a76f0", func := "loop.example/g00217/laws.FnExactShowBlock", spec := "fnExactShowBlock", apart := false }
def FnExactShowBlockSaid : Prop := fnExactShowBlockRow.holds Try.pinned (OpenSpec.ofChange fnExactShowBlockSpec)

/-- ITS FALSE NEIGHBOUR: 'it returns false'. Refute it at one input. -/
def fnExactShowBlockWrong : ChangeSpec := { name := "fnExactShowBlock", fn := fun _ => fun
  | [d] => { results := [.lit (.bool false)], args := [d] }
  | _ => none }
def FnExactShowBlockWrongFalsely : Prop := fnExactShowBlockRow.holds Try.pinned (OpenSpec.ofChange fnExactShowBlockWrong)

/-- 'laws.FnExactName': WHATEVER THE INPUT: true; the input reads as it did. -/
def fnExactNameSpec : ChangeSpec := { name := "fnExactName", fn := fun _ => fun
  | [d] => { results := [.lit (.bool true)], args := [d] }
  | _ => none }
def fnExactNameRow : OpenClaim := { program := "ytckgkhlgnblblaa", sum := "8786a4e1c3ef476f1bf43bbd796831f753fc9ba24044fbed78aa14d2dc5a76f0", func := "loop.example/g00217/laws.FnExactName", spec := "fnExactName", apart := false }
def FnExactNameSaid : Prop := fnExactNameRow.holds Try.pinned (OpenSpec.ofChange fnExactNameSpec)

/-- ITS FALSE NEIGHBOUR: 'it returns false'. Refute it at one input. -/
def fnExactNameWrong : ChangeSpec := { name := "fnExactName", fn := fun _ => fun
  | [d] => { results := [.lit (.bool false)], args := [d] }
  | _ => none }
def FnExactNameWrongFalsely : Prop := fnExactNameRow.holds Try.pinned (OpenSpec.ofChange fnExactNameWrong)

/-- 'laws.FnExactSet': WHATEVER THE INPUT: true; the input reads as it did. -/
def fnExactSetSpec : ChangeSpec := { name := "fnExactSet", fn := fun _ => fun
  | [d1, d2, d3] => { results := [.lit (.bool true)], args := [d1, d2, d3] }
  | _ => none }
def fnExactSetRow : OpenClaim := { program := "ytckgkhlgnblblaa", sum := "8786a4e1c3ef476f1bf43bbd796831f753fc9ba24044fbed78aa14d2dc5a76f0", func := "loop.example/g00217/laws.FnExactSet", spec := "fnExactSet", inPlace := ["slices.overlaps[loop.example/g00217/impl.Leaf]"], unfollowed := true, recurses := true, apart := false }
def FnExactSetSaid : Prop := fnExactSetRow.holds Try.pinned (OpenSpec.ofChange fnExactSetSpec)

/-- ITS FALSE NEIGHBOUR: 'it returns false'. Refute it at one input. -/
def fnExactSetWrong : ChangeSpec := { name := "fnExactSet", fn := fun _ => fun
  | [d1, d2, d3] => { results := [.lit (.bool false)], args := [d1, d2, d3] }
  | _ => none }
def FnExactSetWrongFalsely : Prop := fnExactSetRow.holds Try.pinned (OpenSpec.ofChange fnExactSetWrong)

/-- 'laws.FnExactReadBatch': WHATEVER THE INPUT: true; the input reads as it did. -/
def fnExactReadBatchSpec : ChangeSpec := { name := "fnExactReadBatch", fn := fun _ => fun
  | [d] => { results := [.lit (.bool true)], args := [d] }
  | _ => none }
def fnExactReadBatchRow : OpenClaim := { program := "ytckgkhlgnblblaa", sum := "8786a4e1c3ef476f1bf43bbd796831f753fc9ba24044fbed78aa14d2dc5a76f0", func := "loop.example/g00217/laws.FnExactReadBatch", spec := "fnExactReadBatch", unfollowed := true, recurses := true, apart := false }
def FnExactReadBatchSaid : Prop := fnExactReadBatchRow.holds Try.pinned (OpenSpec.ofChange fnExactReadBatchSpec)

/-- ITS FALSE NEIGHBOUR: 'it returns false'. Refute it at one input. -/
def fnExactReadBatchWrong : ChangeSpec := { name := "fnExactReadBatch", fn := fun _ => fun
  | [d] => { results := [.lit (.bool false)], args := [d] }
  | _ => none }
def FnExactReadBatchWrongFalsely : Prop := fnExactReadBatchRow.holds Try.pinned (OpenSpec.ofChange fnExactReadBatchWrong)

/-- 'laws.FnExactReadBlock': WHATEVER THE INPUT: true; the input reads as it did. -/
def fnExactReadBlockSpec : ChangeSpec := { name := "fnExactReadBlock", fn := fun _ => fun
  | [d] => { results := [.lit (.bool true)], args := [d] }
  | _ => none }
def fnExactReadBlockRow : OpenClaim := { program := "ytckgkhlgnblblaa", sum := "8786a4e1c3ef476f1bf43bbd796831f753fc9ba24044fbed78aa14d2dc5a76f0", func := "loop.example/g00217/laws.FnExactReadBlock", spec := "fnExactReadBlock", apart := false }
def FnExactReadBlockSaid : Prop := fnExactReadBlockRow.holds Try.pinned (OpenSpec.ofChange fnExactReadBlockSpec)

/-- ITS FALSE NEIGHBOUR: 'it returns false'. Refute it at one input. -/
def fnExactReadBlockWrong : ChangeSpec := { name := "fnExactReadBlock", fn := fun _ => fun
  | [d] => { results := [.lit (.bool false)], args := [d] }
  | _ => none }
def FnExactReadBlockWrongFalsely : Prop := fnExactReadBlockRow.holds Try.pinned (OpenSpec.ofChange fnExactReadBlockWrong)

/-- 'laws.FnExactNewReplica': WHATEVER THE INPUT: true; the input reads as it did. -/
def fnExactNewReplicaSpec : ChangeSpec := { name := "fnExactNewReplica", fn := fun _ => fun
  | [d1, d2] => { results := [.lit (.bool true)], args := [d1, d2] }
  | _ => none }
def fnExactNewReplicaRow : OpenClaim := { program := "ytckgkhlgnblblaa", sum := "8786a4e1c3ef476f1bf43bbd796831f753fc9ba24044fbed78aa14d2dc5a76f0", func := "loop.example/g00217/laws.FnExactNewReplica", spec := "fnExactNewReplica", apart := false }
def FnExactNewReplicaSaid : Prop := fnExactNewReplicaRow.holds Try.pinned (OpenSpec.ofChange fnExactNewReplicaSpec)

/-- ITS FALSE NEIGHBOUR: 'it returns false'. Refute it at one input. -/
def fnExactNewReplicaWrong : ChangeSpec := { name := "fnExactNewReplica", fn := fun _ => fun
  | [d1, d2] => { results := [.lit (.bool false)], args := [d1, d2] }
  | _ => none }
def FnExactNewReplicaWrongFalsely : Prop := fnExactNewReplicaRow.holds Try.pinned (OpenSpec.ofChange fnExactNewReplicaWrong)

/-- 'laws.FnExactNewCluster': WHATEVER THE INPUT: true; the input reads as it did. -/
def fnExactNewClusterSpec : ChangeSpec := { name := "fnExactNewCluster", fn := fun _ => fun
  | [d] => { results := [.lit (.bool true)], args := [d] }
  | _ => none }
def fnExactNewClusterRow : OpenClaim := { program := "ytckgkhlgnblblaa", sum := "8786a4e1c3ef476f1bf43bbd796831f753fc9ba24044fbed78aa14d2dc5a76f0", func := "loop.example/g00217/laws.FnExactNewCluster", spec := "fnExactNewCluster", apart := false }
def FnExactNewClusterSaid : Prop := fnExactNewClusterRow.holds Try.pinned (OpenSpec.ofChange fnExactNewClusterSpec)

/-- ITS FALSE NEIGHBOUR: 'it returns false'. Refute it at one input. -/
def fnExactNewClusterWrong : ChangeSpec := { name := "fnExactNewCluster", fn := fun _ => fun
  | [d] => { results := [.lit (.bool false)], args := [d] }
  | _ => none }
def FnExactNewClusterWrongFalsely : Prop := fnExactNewClusterRow.holds Try.pinned (OpenSpec.ofChange fnExactNewClusterWrong)

/-- 'laws.FnPool': WHATEVER THE INPUT: true; the input reads as it did. -/
def fnPoolSpec : ChangeSpec := { name := "fnPool", fn := fun _ => fun
  | [d] => { results := [.lit (.bool true)], args := [d] }
  | _ => none }
def fnPoolRow : OpenClaim := { program := "ytckgkhlgnblblaa", sum := "8786a4e1c3ef476f1bf43bbd796831f753fc9ba24044fbed78aa14d2dc5a76f0", func := "loop.example/g00217/laws.FnPool", spec := "fnPool", apart := false }
def FnPoolSaid : Prop := fnPoolRow.holds Try.pinned (OpenSpec.ofChange fnPoolSpec)

/-- ITS FALSE NEIGHBOUR: 'it returns false'. Refute it at one input. -/
def fnPoolWrong : ChangeSpec := { name := "fnPool", fn := fun _ => fun
  | [d] => { results := [.lit (.bool false)], args := [d] }
  | _ => none }
def FnPoolWrongFalsely : Prop := fnPoolRow.holds Try.pinned (OpenSpec.ofChange fnPoolWrong)

/- THE SECOND FORM. 'bulk': how many values and letters a reading holds, each counted each time it is reached (what is shared counts as often as it is met; a slice's spare places count too). A statement '..UptoSaid' is the law's where the arguments, and the package variables that the reading takes, are together of bulk at most 1048576: NARROWER than '..Said'. Prove '..Said' where nothing that the law and all that it calls make is longer than what came in: it says more and counts as full. Else prove '..UptoSaid'. A law counts once. -/
mutual
def uptoBulk {H : Type} : DataW H → Nat
  | .lit (.string bytes) => bytes.length + 1
  | .lit _ => 1
  | .nil => 1
  | .ptr d => uptoBulk d + 1
  | .slice elems spare => uptoBulkAll elems + uptoBulkAll spare + 1
  | .agg parts => uptoBulkAll parts + 1
  | .iface _ d => uptoBulk d + 1
  | .map entries => uptoBulkEntries entries + 1
  | .held _ => 1
def uptoBulkAll {H : Type} : List (DataW H) → Nat
  | [] => 0
  | d :: r => uptoBulk d + uptoBulkAll r
def uptoBulkEntries {H : Type} : List (Lit × DataW H) → Nat
  | [] => 0
  | x :: r => uptoBulkEntry x + uptoBulkEntries r
def uptoBulkEntry {H : Type} : Lit × DataW H → Nat
  | (.string bytes, d) => bytes.length + uptoBulk d + 1
  | (_, d) => uptoBulk d + 1
 end
def uptoSmall : (H : Type) → List (DataW H) → Bool := fun _ ds => decide (uptoBulkAll ds ≤ 1048576)
def OpenSpec.upto (s : _root_.Go.ChangeSpec) : _root_.Go.OpenSpec := { _root_.Go.OpenSpec.ofChange s with cond := some uptoSmall }

/-- 'laws.FnExactChosen', WHERE WHAT IT READS IS OF BULK AT MOST 1048576: true; the input reads as it did. -/
def fnExactChosenUptoRow : OpenClaim := { program := "ytckgkhlgnblblaa", sum := "8786a4e1c3ef476f1bf43bbd796831f753fc9ba24044fbed78aa14d2dc5a76f0", func := "loop.example/g00217/laws.FnExactChosen", spec := "fnExactChosen", apart := false, narrowed := true }
def FnExactChosenUptoSaid : Prop := fnExactChosenUptoRow.holds Try.pinned (OpenSpec.upto fnExactChosenSpec)

/-- 'laws.FnExactShowBlock', WHERE WHAT IT READS IS OF BULK AT MOST 1048576: true; the input reads as it did. -/
def fnExactShowBlockUptoRow : OpenClaim := { program := "ytckgkhlgnblblaa", sum := "8786a4e1c3ef476f1bf43bbd796831f753fc9ba24044fbed78aa14d2dc5a76f0", func := "loop.example/g00217/laws.FnExactShowBlock", spec := "fnExactShowBlock", apart := false, narrowed := true }
def FnExactShowBlockUptoSaid : Prop := fnExactShowBlockUptoRow.holds Try.pinned (OpenSpec.upto fnExactShowBlockSpec)

/-- 'laws.FnExactName', WHERE WHAT IT READS IS OF BULK AT MOST 1048576: true; the input reads as it did. -/
def fnExactNameUptoRow : OpenClaim := { program := "ytckgkhlgnblblaa", sum := "8786a4e1c3ef476f1bf43bbd796831f753fc9ba24044fbed78aa14d2dc5a76f0", func := "loop.example/g00217/laws.FnExactName", spec := "fnExactName", apart := false, narrowed := true }
def FnExactNameUptoSaid : Prop := fnExactNameUptoRow.holds Try.pinned (OpenSpec.upto fnExactNameSpec)

/-- 'laws.FnExactSet', WHERE WHAT IT READS IS OF BULK AT MOST 1048576: true; the input reads as it did. -/
def fnExactSetUptoRow : OpenClaim := { program := "ytckgkhlgnblblaa", sum := "8786a4e1c3ef476f1bf43bbd796831f753fc9ba24044fbed78aa14d2dc5a76f0", func := "loop.example/g00217/laws.FnExactSet", spec := "fnExactSet", inPlace := ["slices.overlaps[loop.example/g00217/impl.Leaf]"], unfollowed := true, recurses := true, apart := false, narrowed := true }
def FnExactSetUptoSaid : Prop := fnExactSetUptoRow.holds Try.pinned (OpenSpec.upto fnExactSetSpec)

/-- 'laws.FnExactReadBatch', WHERE WHAT IT READS IS OF BULK AT MOST 1048576: true; the input reads as it did. -/
def fnExactReadBatchUptoRow : OpenClaim := { program := "ytckgkhlgnblblaa", sum := "8786a4e1c3ef476f1bf43bbd796831f753fc9ba24044fbed78aa14d2dc5a76f0", func := "loop.example/g00217/laws.FnExactReadBatch", spec := "fnExactReadBatch", unfollowed := true, recurses := true, apart := false, narrowed := true }
def FnExactReadBatchUptoSaid : Prop := fnExactReadBatchUptoRow.holds Try.pinned (OpenSpec.upto fnExactReadBatchSpec)

/-- 'laws.FnExactReadBlock', WHERE WHAT IT READS IS OF BULK AT MOST 1048576: true; the input reads as it did. -/
def fnExactReadBlockUptoRow : OpenClaim := { program := "ytckgkhlgnblblaa", sum := "8786a4e1c3ef476f1bf43bbd796831f753fc9ba24044fbed78aa14d2dc5a76f0", func := "loop.example/g00217/laws.FnExactReadBlock", spec := "fnExactReadBlock", apart := false, narrowed := true }
def FnExactReadBlockUptoSaid : Prop := fnExactReadBlockUptoRow.holds Try.pinned (OpenSpec.upto fnExactReadBlockSpec)

/-- 'laws.FnExactNewReplica', WHERE WHAT IT READS IS OF BULK AT MOST 1048576: true; the input reads as it did. -/
def fnExactNewReplicaUptoRow : OpenClaim := { program := "ytckgkhlgnblblaa", sum := "8786a4e1c3ef476f1bf43bbd796831f753fc9ba24044fbed78aa14d2dc5a76f0", func := "loop.example/g00217/laws.FnExactNewReplica", spec := "fnExactNewReplica", apart := false, narrowed := true }
def FnExactNewReplicaUptoSaid : Prop := fnExactNewReplicaUptoRow.holds Try.pinned (OpenSpec.upto fnExactNewReplicaSpec)

/-- 'laws.FnExactNewCluster', WHERE WHAT IT READS IS OF BULK AT MOST 1048576: true; the input reads as it did. -/
def fnExactNewClusterUptoRow : OpenClaim := { program := "ytckgkhlgnblblaa", sum := "8786a4e1c3ef476f1bf43bbd796831f753fc9ba24044fbed78aa14d2dc5a76f0", func := "loop.example/g00217/laws.FnExactNewCluster", spec := "fnExactNewCluster", apart := false, narrowed := true }
def FnExactNewClusterUptoSaid : Prop := fnExactNewClusterUptoRow.holds Try.pinned (OpenSpec.upto fnExactNewClusterSpec)

/-- 'laws.FnPool', WHERE WHAT IT READS IS OF BULK AT MOST 1048576: true; the input reads as it did. -/
def fnPoolUptoRow : OpenClaim := { program := "ytckgkhlgnblblaa", sum := "8786a4e1c3ef476f1bf43bbd796831f753fc9ba24044fbed78aa14d2dc5a76f0", func := "loop.example/g00217/laws.FnPool", spec := "fnPool", apart := false, narrowed := true }
def FnPoolUptoSaid : Prop := fnPoolUptoRow.holds Try.pinned (OpenSpec.upto fnPoolSpec)

end Rows
end Go.Proofs.Ytckgkhlgnblblaa
