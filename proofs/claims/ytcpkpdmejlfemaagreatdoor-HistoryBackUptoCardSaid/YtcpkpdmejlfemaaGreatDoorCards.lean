/-
  DERIVED. GIVEN WITH THE SEED: THE CARDS: each row of YtcpkpdmejlfemaaGreatDoorRows.lean that lists a variable, with what it lists TIED to the program's text (the seventh form; the later family's looks); each row that meets fmt, with fmt's text TOLD by the authors' own Lean function (tested against real Go, not proved from fmt's source: count such statements apart). THE CARD IS WHAT COUNTS. Prove the row's statement (the work); the ties are given (YtcpkpdmejlfemaaGreatDoorTie.lean); close each card by the builder's one call (the guide's Derived/Test/ToyasCard.lean, 'card_holds'). Laid BY PROGRAM, IN A SANDBOX (cutbox-door.mjs). By AI agents, Wed Nov 11 2026. No macro, syntax, notation, axiom, sorry.
-/
import Derived.Test.YtcpkpdmejlfemaaGreatDoorRows
import GoSem.ClaimSeven
namespace Go.Proofs.YtcpkpdmejlfemaaGreatDoor
namespace Rows

/-- THE TIED CARD OF 'spokeshavelaw25.HistoryBack'. -/
def historyBackCard : Claim7 := { stood := { row := historyBackRow, standIns := [], harness := (true, "6184caadc6ebdcfe404d341e369e4386222e78bf6cf33168c0ea1c133963927a"), looks := false }, kinds := [], alts := [], laidByText := true, laidKinds := [.data, .data], laidTests := true, laidLooks := .later }
def HistoryBackCardSaid : Prop := Claim7.holds Tryz.pinned (.plain (OpenSpec.ofChange historyBackSpec)) historyBackCard

/-- THE SECOND FORM's CARD OF 'spokeshavelaw25.HistoryBack'. -/
def historyBackUptoCard : Claim7 := { stood := { row := historyBackUptoRow, standIns := [], harness := (true, "6184caadc6ebdcfe404d341e369e4386222e78bf6cf33168c0ea1c133963927a"), looks := false }, kinds := [], alts := [], laidByText := true, laidKinds := [.data, .data], laidTests := true, laidLooks := .later }
def HistoryBackUptoCardSaid : Prop := Claim7.holds Tryz.pinned (.plain (OpenSpec.upto historyBackSpec)) historyBackUptoCard
end Rows
end Go.Proofs.YtcpkpdmejlfemaaGreatDoor
