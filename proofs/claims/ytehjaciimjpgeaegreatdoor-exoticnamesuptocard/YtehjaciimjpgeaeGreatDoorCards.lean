/-
  DERIVED. GIVEN WITH THE SEED: THE CARDS: each row of YtehjaciimjpgeaeGreatDoorRows.lean that lists a variable, with what it lists TIED to the program's text (the seventh form; the later family's looks); each row that meets fmt, with fmt's text TOLD by the authors' own Lean function (tested against real Go, not proved from fmt's source: count such statements apart). THE CARD IS WHAT COUNTS. Prove the row's statement (the work); the ties are given (YtehjaciimjpgeaeGreatDoorTie.lean); close each card by the builder's one call (the guide's Derived/Test/ToyasCard.lean, 'card_holds'). Laid BY PROGRAM, IN A SANDBOX (cutbox-door.mjs). By AI agents, Wed Nov 11 2026. No macro, syntax, notation, axiom, sorry.
-/
import Derived.Test.YtehjaciimjpgeaeGreatDoorRows
import GoSem.ClaimSeven
namespace Go.Proofs.YtehjaciimjpgeaeGreatDoor
namespace Rows

/-- THE TIED CARD OF 'bailifflaw13.ExoticNames'. -/
def exoticNamesCard : Claim7 := { stood := { row := exoticNamesRow, standIns := [], harness := (true, "e1a6709212d67488a076f7432d47b0b3fa01013797a8a71852d16985bec54125"), looks := false }, kinds := [], alts := [], laidByText := true, laidKinds := [.data, .data, .data], laidTests := true, laidLooks := .later }
def ExoticNamesCardSaid : Prop := Claim7.holds Tryz.pinned (.plain (OpenSpec.ofChange exoticNamesSpec)) exoticNamesCard

/-- THE SECOND FORM's CARD OF 'bailifflaw13.ExoticNames'. -/
def exoticNamesUptoCard : Claim7 := { stood := { row := exoticNamesUptoRow, standIns := [], harness := (true, "e1a6709212d67488a076f7432d47b0b3fa01013797a8a71852d16985bec54125"), looks := false }, kinds := [], alts := [], laidByText := true, laidKinds := [.data, .data, .data], laidTests := true, laidLooks := .later }
def ExoticNamesUptoCardSaid : Prop := Claim7.holds Tryz.pinned (.plain (OpenSpec.upto exoticNamesSpec)) exoticNamesUptoCard
end Rows
end Go.Proofs.YtehjaciimjpgeaeGreatDoor
