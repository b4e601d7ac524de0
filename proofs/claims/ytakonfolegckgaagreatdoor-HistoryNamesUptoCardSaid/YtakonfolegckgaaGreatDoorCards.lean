/-
  DERIVED. GIVEN WITH THE SEED: THE CARDS: each row of YtakonfolegckgaaGreatDoorRows.lean that lists a variable, with what it lists TIED to the program's text (the seventh form; the later family's looks); each row that meets fmt, with fmt's text TOLD by the authors' own Lean function (tested against real Go, not proved from fmt's source: count such statements apart). THE CARD IS WHAT COUNTS. Prove the row's statement (the work); the ties are given (YtakonfolegckgaaGreatDoorTie.lean); close each card by the builder's one call (the guide's Derived/Test/ToyasCard.lean, 'card_holds'). Laid BY PROGRAM, IN A SANDBOX (cutbox-door.mjs). By AI agents, Wed Nov 11 2026. No macro, syntax, notation, axiom, sorry.
-/
import Derived.Test.YtakonfolegckgaaGreatDoorRows
import GoSem.ClaimSeven
namespace Go.Proofs.YtakonfolegckgaaGreatDoor
namespace Rows

/-- THE TIED CARD OF 'spokeshavelaw25.HistoryNames'. -/
def historyNamesCard : Claim7 := { stood := { row := historyNamesRow, standIns := [], harness := (true, "195d47b87043c9c378a250253a1a53a4da97b523966e0c9f721cd5ce78c79b43"), looks := false }, kinds := [], alts := [], laidByText := true, laidKinds := [.data, .data, .data, .data, .data], laidTests := true, laidLooks := .later }
def HistoryNamesCardSaid : Prop := Claim7.holds Tryz.pinned (.plain (OpenSpec.ofChange historyNamesSpec)) historyNamesCard

/-- THE SECOND FORM's CARD OF 'spokeshavelaw25.HistoryNames'. -/
def historyNamesUptoCard : Claim7 := { stood := { row := historyNamesUptoRow, standIns := [], harness := (true, "195d47b87043c9c378a250253a1a53a4da97b523966e0c9f721cd5ce78c79b43"), looks := false }, kinds := [], alts := [], laidByText := true, laidKinds := [.data, .data, .data, .data, .data], laidTests := true, laidLooks := .later }
def HistoryNamesUptoCardSaid : Prop := Claim7.holds Tryz.pinned (.plain (OpenSpec.upto historyNamesSpec)) historyNamesUptoCard
end Rows
end Go.Proofs.YtakonfolegckgaaGreatDoor
