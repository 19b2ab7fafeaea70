/-
  DERIVED. GIVEN WITH THE SEED: THE CARDS: each row of YtehjaciimjpgeafGreatDoorRows.lean that lists a variable, with what it lists TIED to the program's text (the seventh form; the later family's looks); each row that meets fmt, with fmt's text TOLD by the authors' own Lean function (tested against real Go, not proved from fmt's source: count such statements apart). THE CARD IS WHAT COUNTS. Prove the row's statement (the work); the ties are given (YtehjaciimjpgeafGreatDoorTie.lean); close each card by the builder's one call (the guide's Derived/Test/ToyasCard.lean, 'card_holds'). Laid BY PROGRAM, IN A SANDBOX (cutbox-door.mjs). By AI agents, Wed Nov 11 2026. No macro, syntax, notation, axiom, sorry.
-/
import Derived.Test.YtehjaciimjpgeafGreatDoorRows
import GoSem.ClaimSeven
namespace Go.Proofs.YtehjaciimjpgeafGreatDoor
namespace Rows

/-- THE TIED CARD OF 'bailifflaw18.ReachNames'. -/
def reachNamesCard : Claim7 := { stood := { row := reachNamesRow, standIns := [], harness := (true, "08e0a5d6432cd54b783aabcbde514a98a07aba78013e314e07845bcf49aea3fa"), looks := false }, kinds := [], alts := [], laidByText := true, laidKinds := [.data, .data, .data], laidTests := true, laidLooks := .later }
def ReachNamesCardSaid : Prop := Claim7.holds Tryz.pinned (.plain (OpenSpec.ofChange reachNamesSpec)) reachNamesCard

/-- THE SECOND FORM's CARD OF 'bailifflaw18.ReachNames'. -/
def reachNamesUptoCard : Claim7 := { stood := { row := reachNamesUptoRow, standIns := [], harness := (true, "08e0a5d6432cd54b783aabcbde514a98a07aba78013e314e07845bcf49aea3fa"), looks := false }, kinds := [], alts := [], laidByText := true, laidKinds := [.data, .data, .data], laidTests := true, laidLooks := .later }
def ReachNamesUptoCardSaid : Prop := Claim7.holds Tryz.pinned (.plain (OpenSpec.upto reachNamesSpec)) reachNamesUptoCard
end Rows
end Go.Proofs.YtehjaciimjpgeafGreatDoor
