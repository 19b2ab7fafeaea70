/-
  DERIVED. GIVEN WITH THE SEED: THE CARDS: each row of YtigamceihkiocabDoorRows.lean that lists a variable, with what it lists TIED to the program's text (the seventh form; the later family's looks); each row that meets fmt, with fmt's text TOLD by the authors' own Lean function (tested against real Go, not proved from fmt's source: count such statements apart). THE CARD IS WHAT COUNTS. Prove the row's statement (the work); the ties are given (YtigamceihkiocabDoorTie.lean); close each card by the builder's one call (the guide's Derived/Test/ToyasCard.lean, 'card_holds'). Laid BY PROGRAM, IN A SANDBOX (cutbox-door.mjs). By AI agents, Wed Nov 11 2026. No macro, syntax, notation, axiom, sorry.
-/
import Derived.Test.YtigamceihkiocabDoorRows
import GoSem.ClaimSeven
namespace Go.Proofs.YtigamceihkiocabDoor
namespace Rows

/-- THE TIED CARD OF 'bailifflaw11.HeapNames'. -/
def heapNamesCard : Claim7 := { stood := { row := heapNamesRow, standIns := [], harness := (true, "529a94f7d8185ec443e3801083af7e2ec02554230606da8df1fe11f731b29ff1"), looks := false }, kinds := [], alts := [], laidByText := true, laidKinds := [.data, .data, .data], laidTests := true, laidLooks := .later }
def HeapNamesCardSaid : Prop := Claim7.holds Tryd.pinned (.plain (OpenSpec.ofChange heapNamesSpec)) heapNamesCard

/-- THE SECOND FORM's CARD OF 'bailifflaw11.HeapNames'. -/
def heapNamesUptoCard : Claim7 := { stood := { row := heapNamesUptoRow, standIns := [], harness := (true, "529a94f7d8185ec443e3801083af7e2ec02554230606da8df1fe11f731b29ff1"), looks := false }, kinds := [], alts := [], laidByText := true, laidKinds := [.data, .data, .data], laidTests := true, laidLooks := .later }
def HeapNamesUptoCardSaid : Prop := Claim7.holds Tryd.pinned (.plain (OpenSpec.upto heapNamesSpec)) heapNamesUptoCard
end Rows
end Go.Proofs.YtigamceihkiocabDoor
