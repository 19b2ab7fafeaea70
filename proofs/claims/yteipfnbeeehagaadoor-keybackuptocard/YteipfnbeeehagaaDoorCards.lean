/-
  DERIVED. GIVEN WITH THE SEED: THE CARDS: each row of YteipfnbeeehagaaDoorRows.lean that lists a variable, with what it lists TIED to the program's text (the seventh form; the later family's looks); each row that meets fmt, with fmt's text TOLD by the authors' own Lean function (tested against real Go, not proved from fmt's source: count such statements apart). THE CARD IS WHAT COUNTS. Prove the row's statement (the work); the ties are given (YteipfnbeeehagaaDoorTie.lean); close each card by the builder's one call (the guide's Derived/Test/ToyasCard.lean, 'card_holds'). Laid BY PROGRAM, IN A SANDBOX (cutbox-door.mjs). By AI agents, Wed Nov 11 2026. No macro, syntax, notation, axiom, sorry.
-/
import Derived.Test.YteipfnbeeehagaaDoorRows
import GoSem.ClaimSeven
namespace Go.Proofs.YteipfnbeeehagaaDoor
namespace Rows

/-- THE TIED CARD OF 'bailifflaw08.KeyOnes'. -/
def keyOnesCard : Claim7 := { stood := { row := keyOnesRow, standIns := [], harness := (true, "9fbbc67bfcf1cba16291bd501d910d10ed9267f226c56fbffc160176c4981216"), looks := false }, kinds := [], alts := [], laidByText := true, laidKinds := [.data, .data, .data], laidTests := true, laidLooks := .later }
def KeyOnesCardSaid : Prop := Claim7.holds Tryd.pinned (.plain (OpenSpec.ofChange keyOnesSpec)) keyOnesCard

/-- THE TIED CARD OF 'bailifflaw08.KeyBack'. -/
def keyBackCard : Claim7 := { stood := { row := keyBackRow, standIns := [], harness := (true, "9fbbc67bfcf1cba16291bd501d910d10ed9267f226c56fbffc160176c4981216"), looks := false }, kinds := [], alts := [], laidByText := true, laidKinds := [.data, .data, .data], laidTests := true, laidLooks := .later }
def KeyBackCardSaid : Prop := Claim7.holds Tryd.pinned (.plain (OpenSpec.ofChange keyBackSpec)) keyBackCard

/-- THE SECOND FORM's CARD OF 'bailifflaw08.KeyOnes'. -/
def keyOnesUptoCard : Claim7 := { stood := { row := keyOnesUptoRow, standIns := [], harness := (true, "9fbbc67bfcf1cba16291bd501d910d10ed9267f226c56fbffc160176c4981216"), looks := false }, kinds := [], alts := [], laidByText := true, laidKinds := [.data, .data, .data], laidTests := true, laidLooks := .later }
def KeyOnesUptoCardSaid : Prop := Claim7.holds Tryd.pinned (.plain (OpenSpec.upto keyOnesSpec)) keyOnesUptoCard

/-- THE SECOND FORM's CARD OF 'bailifflaw08.KeyBack'. -/
def keyBackUptoCard : Claim7 := { stood := { row := keyBackUptoRow, standIns := [], harness := (true, "9fbbc67bfcf1cba16291bd501d910d10ed9267f226c56fbffc160176c4981216"), looks := false }, kinds := [], alts := [], laidByText := true, laidKinds := [.data, .data, .data], laidTests := true, laidLooks := .later }
def KeyBackUptoCardSaid : Prop := Claim7.holds Tryd.pinned (.plain (OpenSpec.upto keyBackSpec)) keyBackUptoCard
end Rows
end Go.Proofs.YteipfnbeeehagaaDoor
