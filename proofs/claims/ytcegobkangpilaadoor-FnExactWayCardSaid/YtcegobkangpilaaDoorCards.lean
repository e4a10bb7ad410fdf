/-
  DERIVED. GIVEN WITH THE SEED: THE CARDS: each row of YtcegobkangpilaaDoorRows.lean that lists a variable, with what it lists TIED to the program's text (the seventh form; the later family's looks); each row that meets fmt, with fmt's text TOLD by the authors' own Lean function (tested against real Go, not proved from fmt's source: count such statements apart). THE CARD IS WHAT COUNTS. Prove the row's statement (the work); the ties are given (YtcegobkangpilaaDoorTie.lean); close each card by the builder's one call (the guide's Derived/Test/ToyasCard.lean, 'card_holds'). Laid BY PROGRAM, IN A SANDBOX (cutbox-door.mjs). By AI agents, Wed Nov 11 2026. No macro, syntax, notation, axiom, sorry.
-/
import Derived.Test.YtcegobkangpilaaDoorRows
import GoSem.ClaimSeven
namespace Go.Proofs.YtcegobkangpilaaDoor
namespace Rows

/-- THE TIED CARD OF 'laws.FnExactRecord'. -/
def fnExactRecordCard : Claim7 := { stood := { row := fnExactRecordRow, standIns := [], harness := (true, "597afeee458ee06abd167f1cf33167c9dc46e656c4075ff7f6cbf1696a2feaba"), looks := false }, kinds := [], alts := [], laidByText := true, laidKinds := [.data, .data, .data], laidTests := true, laidLooks := .later }
def FnExactRecordCardSaid : Prop := Claim7.holds Tryd.pinned (.plain (OpenSpec.ofChange fnExactRecordSpec)) fnExactRecordCard

/-- THE TIED CARD OF 'laws.FnExactShowMove'. -/
def fnExactShowMoveCard : Claim7 := { stood := { row := fnExactShowMoveRow, standIns := [], harness := (true, "597afeee458ee06abd167f1cf33167c9dc46e656c4075ff7f6cbf1696a2feaba"), looks := false }, kinds := [], alts := [], laidByText := true, laidKinds := [.data, .data, .data], laidTests := true, laidLooks := .later }
def FnExactShowMoveCardSaid : Prop := Claim7.holds Tryd.pinned (.plain (OpenSpec.ofChange fnExactShowMoveSpec)) fnExactShowMoveCard

/-- THE TIED CARD OF 'laws.FnExactVoteOk'. -/
def fnExactVoteOkCard : Claim7 := { stood := { row := fnExactVoteOkRow, standIns := [], harness := (true, "597afeee458ee06abd167f1cf33167c9dc46e656c4075ff7f6cbf1696a2feaba"), looks := false }, kinds := [], alts := [], laidByText := true, laidKinds := [.data, .data, .data], laidTests := true, laidLooks := .later }
def FnExactVoteOkCardSaid : Prop := Claim7.holds Tryd.pinned (.plain (OpenSpec.ofChange fnExactVoteOkSpec)) fnExactVoteOkCard

/-- THE TIED CARD OF 'laws.FnExactVoted'. -/
def fnExactVotedCard : Claim7 := { stood := { row := fnExactVotedRow, standIns := [], harness := (true, "597afeee458ee06abd167f1cf33167c9dc46e656c4075ff7f6cbf1696a2feaba"), looks := false }, kinds := [], alts := [], laidByText := true, laidKinds := [.data, .data, .data], laidTests := true, laidLooks := .later }
def FnExactVotedCardSaid : Prop := Claim7.holds Tryd.pinned (.plain (OpenSpec.ofChange fnExactVotedSpec)) fnExactVotedCard

/-- THE TIED CARD OF 'laws.FnExactHolds'. -/
def fnExactHoldsCard : Claim7 := { stood := { row := fnExactHoldsRow, standIns := [], harness := (true, "597afeee458ee06abd167f1cf33167c9dc46e656c4075ff7f6cbf1696a2feaba"), looks := false }, kinds := [], alts := [], laidByText := true, laidKinds := [.data, .data, .data], laidTests := true, laidLooks := .later }
def FnExactHoldsCardSaid : Prop := Claim7.holds Tryd.pinned (.plain (OpenSpec.ofChange fnExactHoldsSpec)) fnExactHoldsCard

/-- THE TIED CARD OF 'laws.FnExactPeak'. -/
def fnExactPeakCard : Claim7 := { stood := { row := fnExactPeakRow, standIns := [], harness := (true, "597afeee458ee06abd167f1cf33167c9dc46e656c4075ff7f6cbf1696a2feaba"), looks := false }, kinds := [], alts := [], laidByText := true, laidKinds := [.data, .data, .data], laidTests := true, laidLooks := .later }
def FnExactPeakCardSaid : Prop := Claim7.holds Tryd.pinned (.plain (OpenSpec.ofChange fnExactPeakSpec)) fnExactPeakCard

/-- THE TIED CARD OF 'laws.FnExactProofOk'. -/
def fnExactProofOkCard : Claim7 := { stood := { row := fnExactProofOkRow, standIns := [], harness := (true, "597afeee458ee06abd167f1cf33167c9dc46e656c4075ff7f6cbf1696a2feaba"), looks := false }, kinds := [], alts := [], laidByText := true, laidKinds := [.data, .data, .data], laidTests := true, laidLooks := .later }
def FnExactProofOkCardSaid : Prop := Claim7.holds Tryd.pinned (.plain (OpenSpec.ofChange fnExactProofOkSpec)) fnExactProofOkCard

/-- THE TIED CARD OF 'laws.FnExactParted'. -/
def fnExactPartedCard : Claim7 := { stood := { row := fnExactPartedRow, standIns := [], harness := (true, "597afeee458ee06abd167f1cf33167c9dc46e656c4075ff7f6cbf1696a2feaba"), looks := false }, kinds := [], alts := [], laidByText := true, laidKinds := [.data, .data, .data], laidTests := true, laidLooks := .later }
def FnExactPartedCardSaid : Prop := Claim7.holds Tryd.pinned (.plain (OpenSpec.ofChange fnExactPartedSpec)) fnExactPartedCard

/-- THE TIED CARD OF 'laws.FnExactWay'. -/
def fnExactWayCard : Claim7 := { stood := { row := fnExactWayRow, standIns := [], harness := (true, "597afeee458ee06abd167f1cf33167c9dc46e656c4075ff7f6cbf1696a2feaba"), looks := false }, kinds := [], alts := [], laidByText := true, laidKinds := [.data, .data, .data], laidTests := true, laidLooks := .later }
def FnExactWayCardSaid : Prop := Claim7.holds Tryd.pinned (.plain (OpenSpec.ofChange fnExactWaySpec)) fnExactWayCard

/-- THE TIED CARD OF 'laws.FnExactGathered'. -/
def fnExactGatheredCard : Claim7 := { stood := { row := fnExactGatheredRow, standIns := [], harness := (true, "597afeee458ee06abd167f1cf33167c9dc46e656c4075ff7f6cbf1696a2feaba"), looks := false }, kinds := [], alts := [], laidByText := true, laidKinds := [.data, .data, .data], laidTests := true, laidLooks := .later }
def FnExactGatheredCardSaid : Prop := Claim7.holds Tryd.pinned (.plain (OpenSpec.ofChange fnExactGatheredSpec)) fnExactGatheredCard

/-- THE TIED CARD OF 'laws.FnExactBlockOk'. -/
def fnExactBlockOkCard : Claim7 := { stood := { row := fnExactBlockOkRow, standIns := [], harness := (true, "597afeee458ee06abd167f1cf33167c9dc46e656c4075ff7f6cbf1696a2feaba"), looks := false }, kinds := [], alts := [], laidByText := true, laidKinds := [.data, .data, .data], laidTests := true, laidLooks := .later }
def FnExactBlockOkCardSaid : Prop := Claim7.holds Tryd.pinned (.plain (OpenSpec.ofChange fnExactBlockOkSpec)) fnExactBlockOkCard

/-- THE TIED CARD OF 'laws.FnProofs'. -/
def fnProofsCard : Claim7 := { stood := { row := fnProofsRow, standIns := [], harness := (true, "597afeee458ee06abd167f1cf33167c9dc46e656c4075ff7f6cbf1696a2feaba"), looks := false }, kinds := [], alts := [], laidByText := true, laidKinds := [.data, .data, .data], laidTests := true, laidLooks := .later }
def FnProofsCardSaid : Prop := Claim7.holds Tryd.pinned (.plain (OpenSpec.ofChange fnProofsSpec)) fnProofsCard

/-- THE SECOND FORM's CARD OF 'laws.FnExactRecord'. -/
def fnExactRecordUptoCard : Claim7 := { stood := { row := fnExactRecordUptoRow, standIns := [], harness := (true, "597afeee458ee06abd167f1cf33167c9dc46e656c4075ff7f6cbf1696a2feaba"), looks := false }, kinds := [], alts := [], laidByText := true, laidKinds := [.data, .data, .data], laidTests := true, laidLooks := .later }
def FnExactRecordUptoCardSaid : Prop := Claim7.holds Tryd.pinned (.plain (OpenSpec.upto fnExactRecordSpec)) fnExactRecordUptoCard

/-- THE SECOND FORM's CARD OF 'laws.FnExactShowMove'. -/
def fnExactShowMoveUptoCard : Claim7 := { stood := { row := fnExactShowMoveUptoRow, standIns := [], harness := (true, "597afeee458ee06abd167f1cf33167c9dc46e656c4075ff7f6cbf1696a2feaba"), looks := false }, kinds := [], alts := [], laidByText := true, laidKinds := [.data, .data, .data], laidTests := true, laidLooks := .later }
def FnExactShowMoveUptoCardSaid : Prop := Claim7.holds Tryd.pinned (.plain (OpenSpec.upto fnExactShowMoveSpec)) fnExactShowMoveUptoCard

/-- THE SECOND FORM's CARD OF 'laws.FnExactVoteOk'. -/
def fnExactVoteOkUptoCard : Claim7 := { stood := { row := fnExactVoteOkUptoRow, standIns := [], harness := (true, "597afeee458ee06abd167f1cf33167c9dc46e656c4075ff7f6cbf1696a2feaba"), looks := false }, kinds := [], alts := [], laidByText := true, laidKinds := [.data, .data, .data], laidTests := true, laidLooks := .later }
def FnExactVoteOkUptoCardSaid : Prop := Claim7.holds Tryd.pinned (.plain (OpenSpec.upto fnExactVoteOkSpec)) fnExactVoteOkUptoCard

/-- THE SECOND FORM's CARD OF 'laws.FnExactVoted'. -/
def fnExactVotedUptoCard : Claim7 := { stood := { row := fnExactVotedUptoRow, standIns := [], harness := (true, "597afeee458ee06abd167f1cf33167c9dc46e656c4075ff7f6cbf1696a2feaba"), looks := false }, kinds := [], alts := [], laidByText := true, laidKinds := [.data, .data, .data], laidTests := true, laidLooks := .later }
def FnExactVotedUptoCardSaid : Prop := Claim7.holds Tryd.pinned (.plain (OpenSpec.upto fnExactVotedSpec)) fnExactVotedUptoCard

/-- THE SECOND FORM's CARD OF 'laws.FnExactHolds'. -/
def fnExactHoldsUptoCard : Claim7 := { stood := { row := fnExactHoldsUptoRow, standIns := [], harness := (true, "597afeee458ee06abd167f1cf33167c9dc46e656c4075ff7f6cbf1696a2feaba"), looks := false }, kinds := [], alts := [], laidByText := true, laidKinds := [.data, .data, .data], laidTests := true, laidLooks := .later }
def FnExactHoldsUptoCardSaid : Prop := Claim7.holds Tryd.pinned (.plain (OpenSpec.upto fnExactHoldsSpec)) fnExactHoldsUptoCard

/-- THE SECOND FORM's CARD OF 'laws.FnExactPeak'. -/
def fnExactPeakUptoCard : Claim7 := { stood := { row := fnExactPeakUptoRow, standIns := [], harness := (true, "597afeee458ee06abd167f1cf33167c9dc46e656c4075ff7f6cbf1696a2feaba"), looks := false }, kinds := [], alts := [], laidByText := true, laidKinds := [.data, .data, .data], laidTests := true, laidLooks := .later }
def FnExactPeakUptoCardSaid : Prop := Claim7.holds Tryd.pinned (.plain (OpenSpec.upto fnExactPeakSpec)) fnExactPeakUptoCard

/-- THE SECOND FORM's CARD OF 'laws.FnExactProofOk'. -/
def fnExactProofOkUptoCard : Claim7 := { stood := { row := fnExactProofOkUptoRow, standIns := [], harness := (true, "597afeee458ee06abd167f1cf33167c9dc46e656c4075ff7f6cbf1696a2feaba"), looks := false }, kinds := [], alts := [], laidByText := true, laidKinds := [.data, .data, .data], laidTests := true, laidLooks := .later }
def FnExactProofOkUptoCardSaid : Prop := Claim7.holds Tryd.pinned (.plain (OpenSpec.upto fnExactProofOkSpec)) fnExactProofOkUptoCard

/-- THE SECOND FORM's CARD OF 'laws.FnExactParted'. -/
def fnExactPartedUptoCard : Claim7 := { stood := { row := fnExactPartedUptoRow, standIns := [], harness := (true, "597afeee458ee06abd167f1cf33167c9dc46e656c4075ff7f6cbf1696a2feaba"), looks := false }, kinds := [], alts := [], laidByText := true, laidKinds := [.data, .data, .data], laidTests := true, laidLooks := .later }
def FnExactPartedUptoCardSaid : Prop := Claim7.holds Tryd.pinned (.plain (OpenSpec.upto fnExactPartedSpec)) fnExactPartedUptoCard

/-- THE SECOND FORM's CARD OF 'laws.FnExactWay'. -/
def fnExactWayUptoCard : Claim7 := { stood := { row := fnExactWayUptoRow, standIns := [], harness := (true, "597afeee458ee06abd167f1cf33167c9dc46e656c4075ff7f6cbf1696a2feaba"), looks := false }, kinds := [], alts := [], laidByText := true, laidKinds := [.data, .data, .data], laidTests := true, laidLooks := .later }
def FnExactWayUptoCardSaid : Prop := Claim7.holds Tryd.pinned (.plain (OpenSpec.upto fnExactWaySpec)) fnExactWayUptoCard

/-- THE SECOND FORM's CARD OF 'laws.FnExactGathered'. -/
def fnExactGatheredUptoCard : Claim7 := { stood := { row := fnExactGatheredUptoRow, standIns := [], harness := (true, "597afeee458ee06abd167f1cf33167c9dc46e656c4075ff7f6cbf1696a2feaba"), looks := false }, kinds := [], alts := [], laidByText := true, laidKinds := [.data, .data, .data], laidTests := true, laidLooks := .later }
def FnExactGatheredUptoCardSaid : Prop := Claim7.holds Tryd.pinned (.plain (OpenSpec.upto fnExactGatheredSpec)) fnExactGatheredUptoCard

/-- THE SECOND FORM's CARD OF 'laws.FnExactBlockOk'. -/
def fnExactBlockOkUptoCard : Claim7 := { stood := { row := fnExactBlockOkUptoRow, standIns := [], harness := (true, "597afeee458ee06abd167f1cf33167c9dc46e656c4075ff7f6cbf1696a2feaba"), looks := false }, kinds := [], alts := [], laidByText := true, laidKinds := [.data, .data, .data], laidTests := true, laidLooks := .later }
def FnExactBlockOkUptoCardSaid : Prop := Claim7.holds Tryd.pinned (.plain (OpenSpec.upto fnExactBlockOkSpec)) fnExactBlockOkUptoCard

/-- THE SECOND FORM's CARD OF 'laws.FnProofs'. -/
def fnProofsUptoCard : Claim7 := { stood := { row := fnProofsUptoRow, standIns := [], harness := (true, "597afeee458ee06abd167f1cf33167c9dc46e656c4075ff7f6cbf1696a2feaba"), looks := false }, kinds := [], alts := [], laidByText := true, laidKinds := [.data, .data, .data], laidTests := true, laidLooks := .later }
def FnProofsUptoCardSaid : Prop := Claim7.holds Tryd.pinned (.plain (OpenSpec.upto fnProofsSpec)) fnProofsUptoCard
end Rows
end Go.Proofs.YtcegobkangpilaaDoor
