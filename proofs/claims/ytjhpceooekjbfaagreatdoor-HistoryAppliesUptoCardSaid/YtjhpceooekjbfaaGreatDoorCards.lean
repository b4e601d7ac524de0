/-
  DERIVED. GIVEN WITH THE SEED: THE CARDS: each row of YtjhpceooekjbfaaGreatDoorRows.lean that lists a variable, with what it lists TIED to the program's text (the seventh form; the later family's looks); each row that meets fmt, with fmt's text TOLD by the authors' own Lean function (tested against real Go, not proved from fmt's source: count such statements apart). THE CARD IS WHAT COUNTS. Prove the row's statement (the work); the ties are given (YtjhpceooekjbfaaGreatDoorTie.lean); close each card by the builder's one call (the guide's Derived/Test/ToyasCard.lean, 'card_holds'). Laid BY PROGRAM, IN A SANDBOX (cutbox-door.mjs). By AI agents, Wed Nov 11 2026. No macro, syntax, notation, axiom, sorry.
-/
import Derived.Test.YtjhpceooekjbfaaGreatDoorRows
import GoSem.ClaimSeven
namespace Go.Proofs.YtjhpceooekjbfaaGreatDoor
namespace Rows

/-- THE TIED CARD OF 'spokeshavelaw25.HistoryApplies'. -/
def historyAppliesCard : Claim7 := { stood := { row := historyAppliesRow, standIns := [], harness := (true, "4be63331a8a627c0fc845e3e21059a65f6f6b8734c9109727c5853383b72910c"), looks := false }, kinds := [], alts := [], laidByText := true, laidKinds := [.data, .data], laidTests := true, laidLooks := .later }
def HistoryAppliesCardSaid : Prop := Claim7.holds Tryz.pinned (.plain (OpenSpec.ofChange historyAppliesSpec)) historyAppliesCard

/-- THE SECOND FORM's CARD OF 'spokeshavelaw25.HistoryApplies'. -/
def historyAppliesUptoCard : Claim7 := { stood := { row := historyAppliesUptoRow, standIns := [], harness := (true, "4be63331a8a627c0fc845e3e21059a65f6f6b8734c9109727c5853383b72910c"), looks := false }, kinds := [], alts := [], laidByText := true, laidKinds := [.data, .data], laidTests := true, laidLooks := .later }
def HistoryAppliesUptoCardSaid : Prop := Claim7.holds Tryz.pinned (.plain (OpenSpec.upto historyAppliesSpec)) historyAppliesUptoCard
end Rows
end Go.Proofs.YtjhpceooekjbfaaGreatDoor
