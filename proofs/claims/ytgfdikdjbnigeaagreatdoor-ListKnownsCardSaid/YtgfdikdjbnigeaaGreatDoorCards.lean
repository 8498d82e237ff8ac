/-
  DERIVED. GIVEN WITH THE SEED: THE CARDS: each row of YtgfdikdjbnigeaaGreatDoorRows.lean that lists a variable, with what it lists TIED to the program's text (the seventh form; the later family's looks); each row that meets fmt, with fmt's text TOLD by the authors' own Lean function (tested against real Go, not proved from fmt's source: count such statements apart). THE CARD IS WHAT COUNTS. Prove the row's statement (the work); the ties are given (YtgfdikdjbnigeaaGreatDoorTie.lean); close each card by the builder's one call (the guide's Derived/Test/ToyasCard.lean, 'card_holds'). Laid BY PROGRAM, IN A SANDBOX (cutbox-door.mjs). By AI agents, Wed Nov 11 2026. No macro, syntax, notation, axiom, sorry.
-/
import Derived.Test.YtgfdikdjbnigeaaGreatDoorRows
import GoSem.ClaimSeven
namespace Go.Proofs.YtgfdikdjbnigeaaGreatDoor
namespace Rows

/-- THE TIED CARD OF 'lorgnettelaw21.ListKnowns'. -/
def listKnownsCard : Claim7 := { stood := { row := listKnownsRow, standIns := [], harness := (true, "e213eacf707b8da407f7d48b8c9a637f4aea3e740cdbe9dd6fbe15225a8321ab"), looks := true }, kinds := [], alts := [], laidByText := true, laidKinds := [.data, .data, .data, .pinned, .data, .sentinel, .sentinel, .sentinel], laidTests := true, laidLooks := .later }
def ListKnownsCardSaid : Prop := Claim7.holds Tryz.pinned (.plain (OpenSpec.ofChange listKnownsSpec)) listKnownsCard

/-- THE SECOND FORM's CARD OF 'lorgnettelaw21.ListKnowns'. -/
def listKnownsUptoCard : Claim7 := { stood := { row := listKnownsUptoRow, standIns := [], harness := (true, "e213eacf707b8da407f7d48b8c9a637f4aea3e740cdbe9dd6fbe15225a8321ab"), looks := true }, kinds := [], alts := [], laidByText := true, laidKinds := [.data, .data, .data, .pinned, .data, .sentinel, .sentinel, .sentinel], laidTests := true, laidLooks := .later }
def ListKnownsUptoCardSaid : Prop := Claim7.holds Tryz.pinned (.plain (OpenSpec.upto listKnownsSpec)) listKnownsUptoCard
end Rows
end Go.Proofs.YtgfdikdjbnigeaaGreatDoor
