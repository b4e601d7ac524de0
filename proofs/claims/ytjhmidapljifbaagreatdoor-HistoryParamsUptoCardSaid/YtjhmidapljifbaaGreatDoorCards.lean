/-
  DERIVED. GIVEN WITH THE SEED: THE CARDS: each row of YtjhmidapljifbaaGreatDoorRows.lean that lists a variable, with what it lists TIED to the program's text (the seventh form; the later family's looks); each row that meets fmt, with fmt's text TOLD by the authors' own Lean function (tested against real Go, not proved from fmt's source: count such statements apart). THE CARD IS WHAT COUNTS. Prove the row's statement (the work); the ties are given (YtjhmidapljifbaaGreatDoorTie.lean); close each card by the builder's one call (the guide's Derived/Test/ToyasCard.lean, 'card_holds'). Laid BY PROGRAM, IN A SANDBOX (cutbox-door.mjs). By AI agents, Wed Nov 11 2026. No macro, syntax, notation, axiom, sorry.
-/
import Derived.Test.YtjhmidapljifbaaGreatDoorRows
import GoSem.ClaimSeven
namespace Go.Proofs.YtjhmidapljifbaaGreatDoor
namespace Rows

/-- THE TIED CARD OF 'spokeshavelaw25.HistoryParams'. -/
def historyParamsCard : Claim7 := { stood := { row := historyParamsRow, standIns := [], harness := (true, "c6e67fc973cbeab0a3893693a1043e77dfa61c50a9f8eab47f46c90d6943bf01"), looks := false }, kinds := [], alts := [], laidByText := true, laidKinds := [.data, .data, .data, .data, .data], laidTests := true, laidLooks := .later }
def HistoryParamsCardSaid : Prop := Claim7.holds Tryz.pinned (.plain (OpenSpec.ofChange historyParamsSpec)) historyParamsCard

/-- THE SECOND FORM's CARD OF 'spokeshavelaw25.HistoryParams'. -/
def historyParamsUptoCard : Claim7 := { stood := { row := historyParamsUptoRow, standIns := [], harness := (true, "c6e67fc973cbeab0a3893693a1043e77dfa61c50a9f8eab47f46c90d6943bf01"), looks := false }, kinds := [], alts := [], laidByText := true, laidKinds := [.data, .data, .data, .data, .data], laidTests := true, laidLooks := .later }
def HistoryParamsUptoCardSaid : Prop := Claim7.holds Tryz.pinned (.plain (OpenSpec.upto historyParamsSpec)) historyParamsUptoCard
end Rows
end Go.Proofs.YtjhmidapljifbaaGreatDoor
