/-
  DERIVED. GIVEN WITH THE SEED: THE CARDS: each row of YtgcaabopnnhoaaaGreatDoorRows.lean that lists a variable, with what it lists TIED to the program's text (the seventh form; the later family's looks); each row that meets fmt, with fmt's text TOLD by the authors' own Lean function (tested against real Go, not proved from fmt's source: count such statements apart). THE CARD IS WHAT COUNTS. Prove the row's statement (the work); the ties are given (YtgcaabopnnhoaaaGreatDoorTie.lean); close each card by the builder's one call (the guide's Derived/Test/ToyasCard.lean, 'card_holds'). Laid BY PROGRAM, IN A SANDBOX (cutbox-door.mjs). By AI agents, Wed Nov 11 2026. No macro, syntax, notation, axiom, sorry.
-/
import Derived.Test.YtgcaabopnnhoaaaGreatDoorRows
import GoSem.ClaimSeven
namespace Go.Proofs.YtgcaabopnnhoaaaGreatDoor
namespace Rows

/-- THE TIED CARD OF 'saltdomelaw01.LeachLogs'. -/
def leachLogsCard : Claim7 := { stood := { row := leachLogsRow, standIns := [], harness := (true, "6a4afed6a5da3c1a2e889bf522f0ff2851bf303de7816d85af349ac73b73717e"), looks := true }, kinds := [], alts := [], laidByText := true, laidKinds := [.data, .data, .data, .data, .sentinel, .sentinel, .pinned], laidTests := true, laidLooks := .later }
def LeachLogsCardSaid : Prop := Claim7.holds Tryz.pinned (.plain (OpenSpec.ofChange leachLogsSpec)) leachLogsCard

/-- THE TIED CARD OF 'saltdomelaw01.LeachReads'. -/
def leachReadsCard : Claim7 := { stood := { row := leachReadsRow, standIns := [], harness := (true, "6a4afed6a5da3c1a2e889bf522f0ff2851bf303de7816d85af349ac73b73717e"), looks := true }, kinds := [], alts := [], laidByText := true, laidKinds := [.data, .data, .data, .data, .sentinel, .sentinel, .pinned], laidTests := true, laidLooks := .later }
def LeachReadsCardSaid : Prop := Claim7.holds Tryz.pinned (.plain (OpenSpec.ofChange leachReadsSpec)) leachReadsCard

/-- THE TIED CARD OF 'saltdomelaw01.LeachSpoilt'. -/
def leachSpoiltCard : Claim7 := { stood := { row := leachSpoiltRow, standIns := [], harness := (true, "6a4afed6a5da3c1a2e889bf522f0ff2851bf303de7816d85af349ac73b73717e"), looks := true }, kinds := [], alts := [], laidByText := true, laidKinds := [.data, .data, .data, .data, .sentinel, .sentinel, .pinned], laidTests := true, laidLooks := .later }
def LeachSpoiltCardSaid : Prop := Claim7.holds Tryz.pinned (.plain (OpenSpec.ofChange leachSpoiltSpec)) leachSpoiltCard

/-- THE SECOND FORM's CARD OF 'saltdomelaw01.LeachLogs'. -/
def leachLogsUptoCard : Claim7 := { stood := { row := leachLogsUptoRow, standIns := [], harness := (true, "6a4afed6a5da3c1a2e889bf522f0ff2851bf303de7816d85af349ac73b73717e"), looks := true }, kinds := [], alts := [], laidByText := true, laidKinds := [.data, .data, .data, .data, .sentinel, .sentinel, .pinned], laidTests := true, laidLooks := .later }
def LeachLogsUptoCardSaid : Prop := Claim7.holds Tryz.pinned (.plain (OpenSpec.upto leachLogsSpec)) leachLogsUptoCard

/-- THE SECOND FORM's CARD OF 'saltdomelaw01.LeachReads'. -/
def leachReadsUptoCard : Claim7 := { stood := { row := leachReadsUptoRow, standIns := [], harness := (true, "6a4afed6a5da3c1a2e889bf522f0ff2851bf303de7816d85af349ac73b73717e"), looks := true }, kinds := [], alts := [], laidByText := true, laidKinds := [.data, .data, .data, .data, .sentinel, .sentinel, .pinned], laidTests := true, laidLooks := .later }
def LeachReadsUptoCardSaid : Prop := Claim7.holds Tryz.pinned (.plain (OpenSpec.upto leachReadsSpec)) leachReadsUptoCard

/-- THE SECOND FORM's CARD OF 'saltdomelaw01.LeachSpoilt'. -/
def leachSpoiltUptoCard : Claim7 := { stood := { row := leachSpoiltUptoRow, standIns := [], harness := (true, "6a4afed6a5da3c1a2e889bf522f0ff2851bf303de7816d85af349ac73b73717e"), looks := true }, kinds := [], alts := [], laidByText := true, laidKinds := [.data, .data, .data, .data, .sentinel, .sentinel, .pinned], laidTests := true, laidLooks := .later }
def LeachSpoiltUptoCardSaid : Prop := Claim7.holds Tryz.pinned (.plain (OpenSpec.upto leachSpoiltSpec)) leachSpoiltUptoCard
end Rows
end Go.Proofs.YtgcaabopnnhoaaaGreatDoor
