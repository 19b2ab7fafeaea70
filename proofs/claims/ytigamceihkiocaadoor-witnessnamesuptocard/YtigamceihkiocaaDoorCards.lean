/-
  DERIVED. GIVEN WITH THE SEED: THE CARDS: each row of YtigamceihkiocaaDoorRows.lean that lists a variable, with what it lists TIED to the program's text (the seventh form; the later family's looks); each row that meets fmt, with fmt's text TOLD by the authors' own Lean function (tested against real Go, not proved from fmt's source: count such statements apart). THE CARD IS WHAT COUNTS. Prove the row's statement (the work); the ties are given (YtigamceihkiocaaDoorTie.lean); close each card by the builder's one call (the guide's Derived/Test/ToyasCard.lean, 'card_holds'). Laid BY PROGRAM, IN A SANDBOX (cutbox-door.mjs). By AI agents, Wed Nov 11 2026. No macro, syntax, notation, axiom, sorry.
-/
import Derived.Test.YtigamceihkiocaaDoorRows
import GoSem.ClaimSeven
namespace Go.Proofs.YtigamceihkiocaaDoor
namespace Rows

/-- THE TIED CARD OF 'bailifflaw25.WitnessNames'. -/
def witnessNamesCard : Claim7 := { stood := { row := witnessNamesRow, standIns := [], harness := (true, "87d7e523d51a88a889b3e6367c90907b744270c9318ef34fc427f7b31e32f979"), looks := false }, kinds := [], alts := [], laidByText := true, laidKinds := [.data, .data, .data], laidTests := true, laidLooks := .later }
def WitnessNamesCardSaid : Prop := Claim7.holds Tryd.pinned (.plain (OpenSpec.ofChange witnessNamesSpec)) witnessNamesCard

/-- THE SECOND FORM's CARD OF 'bailifflaw25.WitnessNames'. -/
def witnessNamesUptoCard : Claim7 := { stood := { row := witnessNamesUptoRow, standIns := [], harness := (true, "87d7e523d51a88a889b3e6367c90907b744270c9318ef34fc427f7b31e32f979"), looks := false }, kinds := [], alts := [], laidByText := true, laidKinds := [.data, .data, .data], laidTests := true, laidLooks := .later }
def WitnessNamesUptoCardSaid : Prop := Claim7.holds Tryd.pinned (.plain (OpenSpec.upto witnessNamesSpec)) witnessNamesUptoCard
end Rows
end Go.Proofs.YtigamceihkiocaaDoor
