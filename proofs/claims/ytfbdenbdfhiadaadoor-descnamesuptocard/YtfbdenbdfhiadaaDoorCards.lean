/-
  DERIVED. GIVEN WITH THE SEED: THE CARDS: each row of YtfbdenbdfhiadaaDoorRows.lean that lists a variable, with what it lists TIED to the program's text (the seventh form; the later family's looks); each row that meets fmt, with fmt's text TOLD by the authors' own Lean function (tested against real Go, not proved from fmt's source: count such statements apart). THE CARD IS WHAT COUNTS. Prove the row's statement (the work); the ties are given (YtfbdenbdfhiadaaDoorTie.lean); close each card by the builder's one call (the guide's Derived/Test/ToyasCard.lean, 'card_holds'). Laid BY PROGRAM, IN A SANDBOX (cutbox-door.mjs). By AI agents, Wed Nov 11 2026. No macro, syntax, notation, axiom, sorry.
-/
import Derived.Test.YtfbdenbdfhiadaaDoorRows
import GoSem.ClaimSeven
namespace Go.Proofs.YtfbdenbdfhiadaaDoor
namespace Rows

/-- THE TIED CARD OF 'bailifflaw09.DescNames'. -/
def descNamesCard : Claim7 := { stood := { row := descNamesRow, standIns := [], harness := (true, "e97064c7993637f19cb3b2f7774308330e21d6645f8a9dbf80a26dbeaa83c0b4"), looks := false }, kinds := [], alts := [], laidByText := true, laidKinds := [.data, .data, .data], laidTests := true, laidLooks := .later }
def DescNamesCardSaid : Prop := Claim7.holds Tryd.pinned (.plain (OpenSpec.ofChange descNamesSpec)) descNamesCard

/-- THE SECOND FORM's CARD OF 'bailifflaw09.DescNames'. -/
def descNamesUptoCard : Claim7 := { stood := { row := descNamesUptoRow, standIns := [], harness := (true, "e97064c7993637f19cb3b2f7774308330e21d6645f8a9dbf80a26dbeaa83c0b4"), looks := false }, kinds := [], alts := [], laidByText := true, laidKinds := [.data, .data, .data], laidTests := true, laidLooks := .later }
def DescNamesUptoCardSaid : Prop := Claim7.holds Tryd.pinned (.plain (OpenSpec.upto descNamesSpec)) descNamesUptoCard
end Rows
end Go.Proofs.YtfbdenbdfhiadaaDoor
