/-
  DERIVED. GIVEN WITH THE SEED: THE CARDS: each row of YtokfpmkhfindmaaDoorRows.lean that lists a variable, with what it lists TIED to the program's text (the seventh form; the later family's looks); each row that meets fmt, with fmt's text TOLD by the authors' own Lean function (tested against real Go, not proved from fmt's source: count such statements apart). THE CARD IS WHAT COUNTS. Prove the row's statement (the work); the ties are given (YtokfpmkhfindmaaDoorTie.lean); close each card by the builder's one call (the guide's Derived/Test/ToyasCard.lean, 'card_holds'). Laid BY PROGRAM, IN A SANDBOX (cutbox-door.mjs). By AI agents, Wed Nov 11 2026. No macro, syntax, notation, axiom, sorry.
-/
import Derived.Test.YtokfpmkhfindmaaDoorRows
import GoSem.ClaimSeven
namespace Go.Proofs.YtokfpmkhfindmaaDoor
namespace Rows

/-- THE TIED CARD OF 'laws.FnExactGathered'. -/
def fnExactGatheredCard : Claim7 := { stood := { row := fnExactGatheredRow, standIns := [], harness := (true, "05e89c608b10faaada30f07077b4096eff7a1821f829a65f1daf3c19cfbd8862"), looks := true }, kinds := [], alts := [], laidByText := true, laidKinds := [.data, .data, .data], laidTests := true, laidLooks := .later }
def FnExactGatheredCardSaid : Prop := Claim7.holds Tryd.pinned (.plain (OpenSpec.ofChange fnExactGatheredSpec)) fnExactGatheredCard

/-- THE TIED CARD OF 'laws.FnProofs'. -/
def fnProofsCard : Claim7 := { stood := { row := fnProofsRow, standIns := [], harness := (true, "05e89c608b10faaada30f07077b4096eff7a1821f829a65f1daf3c19cfbd8862"), looks := true }, kinds := [], alts := [], laidByText := true, laidKinds := [.data, .data, .data], laidTests := true, laidLooks := .later }
def FnProofsCardSaid : Prop := Claim7.holds Tryd.pinned (.plain (OpenSpec.ofChange fnProofsSpec)) fnProofsCard

/-- THE TIED CARD OF 'laws.FnExactRecords'. -/
def fnExactRecordsCard : Claim7 := { stood := { row := fnExactRecordsRow, standIns := [], harness := (true, "05e89c608b10faaada30f07077b4096eff7a1821f829a65f1daf3c19cfbd8862"), looks := true }, kinds := [], alts := [], laidByText := true, laidKinds := [.data, .data, .data, .sentinel, .sentinel], laidTests := true, laidLooks := .later }
def FnExactRecordsCardSaid : Prop := Claim7.holds Tryd.pinned (.plain (OpenSpec.ofChange fnExactRecordsSpec)) fnExactRecordsCard

/-- THE TIED CARD OF 'laws.FnExactReadMove'. -/
def fnExactReadMoveCard : Claim7 := { stood := { row := fnExactReadMoveRow, standIns := [], harness := (true, "05e89c608b10faaada30f07077b4096eff7a1821f829a65f1daf3c19cfbd8862"), looks := true }, kinds := [], alts := [], laidByText := true, laidKinds := [.data, .data, .data, .data, .sentinel, .sentinel, .pinned], laidTests := true, laidLooks := .later }
def FnExactReadMoveCardSaid : Prop := Claim7.holds Tryd.pinned (.plain (OpenSpec.ofChange fnExactReadMoveSpec)) fnExactReadMoveCard

/-- THE SECOND FORM's CARD OF 'laws.FnExactGathered'. -/
def fnExactGatheredUptoCard : Claim7 := { stood := { row := fnExactGatheredUptoRow, standIns := [], harness := (true, "05e89c608b10faaada30f07077b4096eff7a1821f829a65f1daf3c19cfbd8862"), looks := true }, kinds := [], alts := [], laidByText := true, laidKinds := [.data, .data, .data], laidTests := true, laidLooks := .later }
def FnExactGatheredUptoCardSaid : Prop := Claim7.holds Tryd.pinned (.plain (OpenSpec.upto fnExactGatheredSpec)) fnExactGatheredUptoCard

/-- THE SECOND FORM's CARD OF 'laws.FnProofs'. -/
def fnProofsUptoCard : Claim7 := { stood := { row := fnProofsUptoRow, standIns := [], harness := (true, "05e89c608b10faaada30f07077b4096eff7a1821f829a65f1daf3c19cfbd8862"), looks := true }, kinds := [], alts := [], laidByText := true, laidKinds := [.data, .data, .data], laidTests := true, laidLooks := .later }
def FnProofsUptoCardSaid : Prop := Claim7.holds Tryd.pinned (.plain (OpenSpec.upto fnProofsSpec)) fnProofsUptoCard

/-- THE SECOND FORM's CARD OF 'laws.FnExactRecords'. -/
def fnExactRecordsUptoCard : Claim7 := { stood := { row := fnExactRecordsUptoRow, standIns := [], harness := (true, "05e89c608b10faaada30f07077b4096eff7a1821f829a65f1daf3c19cfbd8862"), looks := true }, kinds := [], alts := [], laidByText := true, laidKinds := [.data, .data, .data, .sentinel, .sentinel], laidTests := true, laidLooks := .later }
def FnExactRecordsUptoCardSaid : Prop := Claim7.holds Tryd.pinned (.plain (OpenSpec.upto fnExactRecordsSpec)) fnExactRecordsUptoCard

/-- THE SECOND FORM's CARD OF 'laws.FnExactReadMove'. -/
def fnExactReadMoveUptoCard : Claim7 := { stood := { row := fnExactReadMoveUptoRow, standIns := [], harness := (true, "05e89c608b10faaada30f07077b4096eff7a1821f829a65f1daf3c19cfbd8862"), looks := true }, kinds := [], alts := [], laidByText := true, laidKinds := [.data, .data, .data, .data, .sentinel, .sentinel, .pinned], laidTests := true, laidLooks := .later }
def FnExactReadMoveUptoCardSaid : Prop := Claim7.holds Tryd.pinned (.plain (OpenSpec.upto fnExactReadMoveSpec)) fnExactReadMoveUptoCard
end Rows
end Go.Proofs.YtokfpmkhfindmaaDoor
