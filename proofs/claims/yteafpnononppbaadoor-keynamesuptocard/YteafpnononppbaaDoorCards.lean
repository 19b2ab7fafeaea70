/-
  DERIVED. GIVEN WITH THE SEED: THE CARDS: each row of YteafpnononppbaaDoorRows.lean that lists a variable, with what it lists TIED to the program's text (the seventh form; the later family's looks); each row that meets fmt, with fmt's text TOLD by the authors' own Lean function (tested against real Go, not proved from fmt's source: count such statements apart). THE CARD IS WHAT COUNTS. Prove the row's statement (the work); the ties are given (YteafpnononppbaaDoorTie.lean); close each card by the builder's one call (the guide's Derived/Test/ToyasCard.lean, 'card_holds'). Laid BY PROGRAM, IN A SANDBOX (cutbox-door.mjs). By AI agents, Wed Nov 11 2026. No macro, syntax, notation, axiom, sorry.
-/
import Derived.Test.YteafpnononppbaaDoorRows
import GoSem.ClaimSeven
namespace Go.Proofs.YteafpnononppbaaDoor
namespace Rows

/-- THE TIED CARD OF 'bailifflaw08.KeyNames'. -/
def keyNamesCard : Claim7 := { stood := { row := keyNamesRow, standIns := [], harness := (true, "6e0198599c6ba8a7e562854e6f0ea1e9b43df571dda0bee447b55ad6b732e813"), looks := false }, kinds := [], alts := [], laidByText := true, laidKinds := [.data, .data, .data], laidTests := true, laidLooks := .later }
def KeyNamesCardSaid : Prop := Claim7.holds Tryd.pinned (.plain (OpenSpec.ofChange keyNamesSpec)) keyNamesCard

/-- THE SECOND FORM's CARD OF 'bailifflaw08.KeyNames'. -/
def keyNamesUptoCard : Claim7 := { stood := { row := keyNamesUptoRow, standIns := [], harness := (true, "6e0198599c6ba8a7e562854e6f0ea1e9b43df571dda0bee447b55ad6b732e813"), looks := false }, kinds := [], alts := [], laidByText := true, laidKinds := [.data, .data, .data], laidTests := true, laidLooks := .later }
def KeyNamesUptoCardSaid : Prop := Claim7.holds Tryd.pinned (.plain (OpenSpec.upto keyNamesSpec)) keyNamesUptoCard
end Rows
end Go.Proofs.YteafpnononppbaaDoor
