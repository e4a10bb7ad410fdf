/-
  DERIVED. GIVEN WITH THE SEED: THE CARDS: each row of YtgpofolfflfgiaaDoorRows.lean that lists a variable, with what it lists TIED to the program's text (the seventh form; the later family's looks); each row that meets fmt, with fmt's text TOLD by the authors' own Lean function (tested against real Go, not proved from fmt's source: count such statements apart). THE CARD IS WHAT COUNTS. Prove the row's statement (the work); the ties are given (YtgpofolfflfgiaaDoorTie.lean); close each card by the builder's one call (the guide's Derived/Test/ToyasCard.lean, 'card_holds'). Laid BY PROGRAM, IN A SANDBOX (cutbox-door.mjs). By AI agents, Wed Nov 11 2026. No macro, syntax, notation, axiom, sorry.
-/
import Derived.Test.YtgpofolfflfgiaaDoorRows
import GoSem.ClaimSeven
namespace Go.Proofs.YtgpofolfflfgiaaDoor
namespace Rows

/-- THE TIED CARD OF 'laws.FnProved'. -/
def fnProvedCard : Claim7 := { stood := { row := fnProvedRow, standIns := [], harness := (true, "69292c33078b50ca2dc8f6391ee0f025e54f1f82d5dfafce0815d3ed29c9ba65"), looks := false }, kinds := [], alts := [], laidByText := true, laidKinds := [.data, .data, .data], laidTests := true, laidLooks := .later }
def FnProvedCardSaid : Prop := Claim7.holds Tryd.pinned (.plain (OpenSpec.ofChange fnProvedSpec)) fnProvedCard

/-- THE SECOND FORM's CARD OF 'laws.FnProved'. -/
def fnProvedUptoCard : Claim7 := { stood := { row := fnProvedUptoRow, standIns := [], harness := (true, "69292c33078b50ca2dc8f6391ee0f025e54f1f82d5dfafce0815d3ed29c9ba65"), looks := false }, kinds := [], alts := [], laidByText := true, laidKinds := [.data, .data, .data], laidTests := true, laidLooks := .later }
def FnProvedUptoCardSaid : Prop := Claim7.holds Tryd.pinned (.plain (OpenSpec.upto fnProvedSpec)) fnProvedUptoCard
end Rows
end Go.Proofs.YtgpofolfflfgiaaDoor
