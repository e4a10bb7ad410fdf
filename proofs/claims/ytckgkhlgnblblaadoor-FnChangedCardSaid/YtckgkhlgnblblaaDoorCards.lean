/-
  DERIVED. GIVEN WITH THE SEED: THE CARDS: each row of YtckgkhlgnblblaaDoorRows.lean that lists a variable, with what it lists TIED to the program's text (the seventh form; the later family's looks); each row that meets fmt, with fmt's text TOLD by the authors' own Lean function (tested against real Go, not proved from fmt's source: count such statements apart). THE CARD IS WHAT COUNTS. Prove the row's statement (the work); the ties are given (YtckgkhlgnblblaaDoorTie.lean); close each card by the builder's one call (the guide's Derived/Test/ToyasCard.lean, 'card_holds'). Laid BY PROGRAM, IN A SANDBOX (cutbox-door.mjs). By AI agents, Wed Nov 11 2026. No macro, syntax, notation, axiom, sorry.
-/
import Derived.Test.YtckgkhlgnblblaaDoorRows
import GoSem.ClaimSeven
namespace Go.Proofs.YtckgkhlgnblblaaDoor
namespace Rows

/-- THE TIED CARD OF 'laws.FnBlocks'. -/
def fnBlocksCard : Claim7 := { stood := { row := fnBlocksRow, standIns := [], harness := (true, "a9f87e8bcde557742d6cef91f4e28d041d0a114166237d9dfc699da405d4857f"), looks := false }, kinds := [], alts := [], laidByText := true, laidKinds := [.data, .data, .data], laidTests := true, laidLooks := .later }
def FnBlocksCardSaid : Prop := Claim7.holds Tryd.pinned (.plain (OpenSpec.ofChange fnBlocksSpec)) fnBlocksCard

/-- THE TIED CARD OF 'laws.FnParted'. -/
def fnPartedCard : Claim7 := { stood := { row := fnPartedRow, standIns := [], harness := (true, "a9f87e8bcde557742d6cef91f4e28d041d0a114166237d9dfc699da405d4857f"), looks := false }, kinds := [], alts := [], laidByText := true, laidKinds := [.data, .data, .data], laidTests := true, laidLooks := .later }
def FnPartedCardSaid : Prop := Claim7.holds Tryd.pinned (.plain (OpenSpec.ofChange fnPartedSpec)) fnPartedCard

/-- THE TIED CARD OF 'laws.FnChanged'. -/
def fnChangedCard : Claim7 := { stood := { row := fnChangedRow, standIns := [], harness := (true, "a9f87e8bcde557742d6cef91f4e28d041d0a114166237d9dfc699da405d4857f"), looks := false }, kinds := [], alts := [], laidByText := true, laidKinds := [.data, .data, .data], laidTests := true, laidLooks := .later }
def FnChangedCardSaid : Prop := Claim7.holds Tryd.pinned (.plain (OpenSpec.ofChange fnChangedSpec)) fnChangedCard

/-- THE SECOND FORM's CARD OF 'laws.FnBlocks'. -/
def fnBlocksUptoCard : Claim7 := { stood := { row := fnBlocksUptoRow, standIns := [], harness := (true, "a9f87e8bcde557742d6cef91f4e28d041d0a114166237d9dfc699da405d4857f"), looks := false }, kinds := [], alts := [], laidByText := true, laidKinds := [.data, .data, .data], laidTests := true, laidLooks := .later }
def FnBlocksUptoCardSaid : Prop := Claim7.holds Tryd.pinned (.plain (OpenSpec.upto fnBlocksSpec)) fnBlocksUptoCard

/-- THE SECOND FORM's CARD OF 'laws.FnParted'. -/
def fnPartedUptoCard : Claim7 := { stood := { row := fnPartedUptoRow, standIns := [], harness := (true, "a9f87e8bcde557742d6cef91f4e28d041d0a114166237d9dfc699da405d4857f"), looks := false }, kinds := [], alts := [], laidByText := true, laidKinds := [.data, .data, .data], laidTests := true, laidLooks := .later }
def FnPartedUptoCardSaid : Prop := Claim7.holds Tryd.pinned (.plain (OpenSpec.upto fnPartedSpec)) fnPartedUptoCard

/-- THE SECOND FORM's CARD OF 'laws.FnChanged'. -/
def fnChangedUptoCard : Claim7 := { stood := { row := fnChangedUptoRow, standIns := [], harness := (true, "a9f87e8bcde557742d6cef91f4e28d041d0a114166237d9dfc699da405d4857f"), looks := false }, kinds := [], alts := [], laidByText := true, laidKinds := [.data, .data, .data], laidTests := true, laidLooks := .later }
def FnChangedUptoCardSaid : Prop := Claim7.holds Tryd.pinned (.plain (OpenSpec.upto fnChangedSpec)) fnChangedUptoCard
end Rows
end Go.Proofs.YtckgkhlgnblblaaDoor
