/-
  DERIVED. GIVEN WITH THE SEED: THE CARDS: each row of YtjolkgnaeoimeaaGreatDoorRows.lean that lists a variable, with what it lists TIED to the program's text (the seventh form; the later family's looks); each row that meets fmt, with fmt's text TOLD by the authors' own Lean function (tested against real Go, not proved from fmt's source: count such statements apart). THE CARD IS WHAT COUNTS. Prove the row's statement (the work); the ties are given (YtjolkgnaeoimeaaGreatDoorTie.lean); close each card by the builder's one call (the guide's Derived/Test/ToyasCard.lean, 'card_holds'). Laid BY PROGRAM, IN A SANDBOX (cutbox-door.mjs). By AI agents, Wed Nov 11 2026. No macro, syntax, notation, axiom, sorry.
-/
import Derived.Test.YtjolkgnaeoimeaaGreatDoorRows
import GoSem.ClaimSeven
namespace Go.Proofs.YtjolkgnaeoimeaaGreatDoor
namespace Rows

/-- THE TIED CARD OF 'posthouselaw8.FetchWholeIsHeaderAndText'. -/
def fetchWholeIsHeaderAndTextCard : Claim7 := { stood := { row := fetchWholeIsHeaderAndTextRow, standIns := [], harness := (true, "8c2ed7c94db77a21d56052e74dc2a3497a4ce8b79e3dcf08fb0c8a54c67b2cfe"), looks := true }, kinds := [], alts := [], laidByText := true, laidKinds := [.data, .data, .data, .data, .sentinel, .sentinel, .pinned], laidTests := true, laidLooks := .later }
def FetchWholeIsHeaderAndTextCardSaid : Prop := Claim7.holds Tryz.pinned (.plain (OpenSpec.ofChange fetchWholeIsHeaderAndTextSpec)) fetchWholeIsHeaderAndTextCard

/-- THE SECOND FORM's CARD OF 'posthouselaw8.FetchWholeIsHeaderAndText'. -/
def fetchWholeIsHeaderAndTextUptoCard : Claim7 := { stood := { row := fetchWholeIsHeaderAndTextUptoRow, standIns := [], harness := (true, "8c2ed7c94db77a21d56052e74dc2a3497a4ce8b79e3dcf08fb0c8a54c67b2cfe"), looks := true }, kinds := [], alts := [], laidByText := true, laidKinds := [.data, .data, .data, .data, .sentinel, .sentinel, .pinned], laidTests := true, laidLooks := .later }
def FetchWholeIsHeaderAndTextUptoCardSaid : Prop := Claim7.holds Tryz.pinned (.plain (OpenSpec.upto fetchWholeIsHeaderAndTextSpec)) fetchWholeIsHeaderAndTextUptoCard
end Rows
end Go.Proofs.YtjolkgnaeoimeaaGreatDoor
