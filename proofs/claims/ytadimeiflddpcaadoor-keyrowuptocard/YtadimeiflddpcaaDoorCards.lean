/-
  DERIVED. GIVEN WITH THE SEED: THE CARDS: each row of YtadimeiflddpcaaDoorRows.lean that lists a variable, with what it lists TIED to the program's text (the seventh form; the later family's looks); each row that meets fmt, with fmt's text TOLD by the authors' own Lean function (tested against real Go, not proved from fmt's source: count such statements apart). THE CARD IS WHAT COUNTS. Prove the row's statement (the work); the ties are given (YtadimeiflddpcaaDoorTie.lean); close each card by the builder's one call (the guide's Derived/Test/ToyasCard.lean, 'card_holds'). Laid BY PROGRAM, IN A SANDBOX (cutbox-door.mjs). By AI agents, Wed Nov 11 2026. No macro, syntax, notation, axiom, sorry.
-/
import Derived.Test.YtadimeiflddpcaaDoorRows
import GoSem.ClaimSeven
namespace Go.Proofs.YtadimeiflddpcaaDoor
namespace Rows

/-- THE TIED CARD OF 'bailifflaw08.KeyRow'. -/
def keyRowCard : Claim7 := { stood := { row := keyRowRow, standIns := [], harness := (true, "ac4bb92c2046762dc62bd442f16d337d194f102ee54261f5f3b262e7393bf982"), looks := false }, kinds := [], alts := [], laidByText := true, laidKinds := [.data, .data, .data], laidTests := true, laidLooks := .later }
def KeyRowCardSaid : Prop := Claim7.holds Tryd.pinned (.plain (OpenSpec.ofChange keyRowSpec)) keyRowCard

/-- THE SECOND FORM's CARD OF 'bailifflaw08.KeyRow'. -/
def keyRowUptoCard : Claim7 := { stood := { row := keyRowUptoRow, standIns := [], harness := (true, "ac4bb92c2046762dc62bd442f16d337d194f102ee54261f5f3b262e7393bf982"), looks := false }, kinds := [], alts := [], laidByText := true, laidKinds := [.data, .data, .data], laidTests := true, laidLooks := .later }
def KeyRowUptoCardSaid : Prop := Claim7.holds Tryd.pinned (.plain (OpenSpec.upto keyRowSpec)) keyRowUptoCard
end Rows
end Go.Proofs.YtadimeiflddpcaaDoor
