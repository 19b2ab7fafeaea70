/-
  DERIVED. GIVEN WITH THE SEED: THE CARDS: each row of YtmlmleimmeniiaaGreatDoorRows.lean that lists a variable, with what it lists TIED to the program's text (the seventh form; the later family's looks); each row that meets fmt, with fmt's text TOLD by the authors' own Lean function (tested against real Go, not proved from fmt's source: count such statements apart). THE CARD IS WHAT COUNTS. Prove the row's statement (the work); the ties are given (YtmlmleimmeniiaaGreatDoorTie.lean); close each card by the builder's one call (the guide's Derived/Test/ToyasCard.lean, 'card_holds'). Laid BY PROGRAM, IN A SANDBOX (cutbox-door.mjs). By AI agents, Wed Nov 11 2026. No macro, syntax, notation, axiom, sorry.
-/
import Derived.Test.YtmlmleimmeniiaaGreatDoorRows
import GoSem.ClaimSeven
namespace Go.Proofs.YtmlmleimmeniiaaGreatDoor
namespace Rows

/-- THE TIED CARD OF 'bailifflaw16.TrapNames'. -/
def trapNamesCard : Claim7 := { stood := { row := trapNamesRow, standIns := [], harness := (true, "e4fbe56a8d8619279f133abbaaf0f33eef6536845780e155db5c8581f31ea403"), looks := false }, kinds := [], alts := [], laidByText := true, laidKinds := [.data, .data, .data], laidTests := true, laidLooks := .later }
def TrapNamesCardSaid : Prop := Claim7.holds Tryz.pinned (.plain (OpenSpec.ofChange trapNamesSpec)) trapNamesCard

/-- THE TIED CARD OF 'bailifflaw16.TrapChecks'. -/
def trapChecksCard : Claim7 := { stood := { row := trapChecksRow, standIns := [], harness := (true, "e4fbe56a8d8619279f133abbaaf0f33eef6536845780e155db5c8581f31ea403"), looks := false }, kinds := [], alts := [], laidByText := true, laidKinds := [.data, .data, .data], laidTests := true, laidLooks := .later }
def TrapChecksCardSaid : Prop := Claim7.holds Tryz.pinned (.plain (OpenSpec.ofChange trapChecksSpec)) trapChecksCard

/-- THE TIED CARD OF 'bailifflaw16.TrapGetPrototypeOf'. -/
def trapGetPrototypeOfCard : Claim7 := { stood := { row := trapGetPrototypeOfRow, standIns := [], harness := (true, "e4fbe56a8d8619279f133abbaaf0f33eef6536845780e155db5c8581f31ea403"), looks := false }, kinds := [], alts := [], laidByText := true, laidKinds := [.data, .data, .data], laidTests := true, laidLooks := .later }
def TrapGetPrototypeOfCardSaid : Prop := Claim7.holds Tryz.pinned (.plain (OpenSpec.ofChange trapGetPrototypeOfSpec)) trapGetPrototypeOfCard

/-- THE TIED CARD OF 'bailifflaw16.TrapSetPrototypeOf'. -/
def trapSetPrototypeOfCard : Claim7 := { stood := { row := trapSetPrototypeOfRow, standIns := [], harness := (true, "e4fbe56a8d8619279f133abbaaf0f33eef6536845780e155db5c8581f31ea403"), looks := false }, kinds := [], alts := [], laidByText := true, laidKinds := [.data, .data, .data], laidTests := true, laidLooks := .later }
def TrapSetPrototypeOfCardSaid : Prop := Claim7.holds Tryz.pinned (.plain (OpenSpec.ofChange trapSetPrototypeOfSpec)) trapSetPrototypeOfCard

/-- THE TIED CARD OF 'bailifflaw16.TrapIsExtensible'. -/
def trapIsExtensibleCard : Claim7 := { stood := { row := trapIsExtensibleRow, standIns := [], harness := (true, "e4fbe56a8d8619279f133abbaaf0f33eef6536845780e155db5c8581f31ea403"), looks := false }, kinds := [], alts := [], laidByText := true, laidKinds := [.data, .data, .data], laidTests := true, laidLooks := .later }
def TrapIsExtensibleCardSaid : Prop := Claim7.holds Tryz.pinned (.plain (OpenSpec.ofChange trapIsExtensibleSpec)) trapIsExtensibleCard

/-- THE TIED CARD OF 'bailifflaw16.TrapPreventExtensions'. -/
def trapPreventExtensionsCard : Claim7 := { stood := { row := trapPreventExtensionsRow, standIns := [], harness := (true, "e4fbe56a8d8619279f133abbaaf0f33eef6536845780e155db5c8581f31ea403"), looks := false }, kinds := [], alts := [], laidByText := true, laidKinds := [.data, .data, .data], laidTests := true, laidLooks := .later }
def TrapPreventExtensionsCardSaid : Prop := Claim7.holds Tryz.pinned (.plain (OpenSpec.ofChange trapPreventExtensionsSpec)) trapPreventExtensionsCard

/-- THE TIED CARD OF 'bailifflaw16.TrapGetOwnProperty'. -/
def trapGetOwnPropertyCard : Claim7 := { stood := { row := trapGetOwnPropertyRow, standIns := [], harness := (true, "e4fbe56a8d8619279f133abbaaf0f33eef6536845780e155db5c8581f31ea403"), looks := false }, kinds := [], alts := [], laidByText := true, laidKinds := [.data, .data, .data], laidTests := true, laidLooks := .later }
def TrapGetOwnPropertyCardSaid : Prop := Claim7.holds Tryz.pinned (.plain (OpenSpec.ofChange trapGetOwnPropertySpec)) trapGetOwnPropertyCard

/-- THE TIED CARD OF 'bailifflaw16.TrapDefineOwnProperty'. -/
def trapDefineOwnPropertyCard : Claim7 := { stood := { row := trapDefineOwnPropertyRow, standIns := [], harness := (true, "e4fbe56a8d8619279f133abbaaf0f33eef6536845780e155db5c8581f31ea403"), looks := false }, kinds := [], alts := [], laidByText := true, laidKinds := [.data, .data, .data], laidTests := true, laidLooks := .later }
def TrapDefineOwnPropertyCardSaid : Prop := Claim7.holds Tryz.pinned (.plain (OpenSpec.ofChange trapDefineOwnPropertySpec)) trapDefineOwnPropertyCard

/-- THE TIED CARD OF 'bailifflaw16.TrapHasProperty'. -/
def trapHasPropertyCard : Claim7 := { stood := { row := trapHasPropertyRow, standIns := [], harness := (true, "e4fbe56a8d8619279f133abbaaf0f33eef6536845780e155db5c8581f31ea403"), looks := false }, kinds := [], alts := [], laidByText := true, laidKinds := [.data, .data, .data], laidTests := true, laidLooks := .later }
def TrapHasPropertyCardSaid : Prop := Claim7.holds Tryz.pinned (.plain (OpenSpec.ofChange trapHasPropertySpec)) trapHasPropertyCard

/-- THE TIED CARD OF 'bailifflaw16.TrapGet'. -/
def trapGetCard : Claim7 := { stood := { row := trapGetRow, standIns := [], harness := (true, "e4fbe56a8d8619279f133abbaaf0f33eef6536845780e155db5c8581f31ea403"), looks := false }, kinds := [], alts := [], laidByText := true, laidKinds := [.data, .data, .data], laidTests := true, laidLooks := .later }
def TrapGetCardSaid : Prop := Claim7.holds Tryz.pinned (.plain (OpenSpec.ofChange trapGetSpec)) trapGetCard

/-- THE TIED CARD OF 'bailifflaw16.TrapSet'. -/
def trapSetCard : Claim7 := { stood := { row := trapSetRow, standIns := [], harness := (true, "e4fbe56a8d8619279f133abbaaf0f33eef6536845780e155db5c8581f31ea403"), looks := false }, kinds := [], alts := [], laidByText := true, laidKinds := [.data, .data, .data], laidTests := true, laidLooks := .later }
def TrapSetCardSaid : Prop := Claim7.holds Tryz.pinned (.plain (OpenSpec.ofChange trapSetSpec)) trapSetCard

/-- THE TIED CARD OF 'bailifflaw16.TrapDelete'. -/
def trapDeleteCard : Claim7 := { stood := { row := trapDeleteRow, standIns := [], harness := (true, "e4fbe56a8d8619279f133abbaaf0f33eef6536845780e155db5c8581f31ea403"), looks := false }, kinds := [], alts := [], laidByText := true, laidKinds := [.data, .data, .data], laidTests := true, laidLooks := .later }
def TrapDeleteCardSaid : Prop := Claim7.holds Tryz.pinned (.plain (OpenSpec.ofChange trapDeleteSpec)) trapDeleteCard

/-- THE TIED CARD OF 'bailifflaw16.TrapOwnKeys'. -/
def trapOwnKeysCard : Claim7 := { stood := { row := trapOwnKeysRow, standIns := [], harness := (true, "e4fbe56a8d8619279f133abbaaf0f33eef6536845780e155db5c8581f31ea403"), looks := false }, kinds := [], alts := [], laidByText := true, laidKinds := [.data, .data, .data], laidTests := true, laidLooks := .later }
def TrapOwnKeysCardSaid : Prop := Claim7.holds Tryz.pinned (.plain (OpenSpec.ofChange trapOwnKeysSpec)) trapOwnKeysCard

/-- THE TIED CARD OF 'bailifflaw16.TrapCall'. -/
def trapCallCard : Claim7 := { stood := { row := trapCallRow, standIns := [], harness := (true, "e4fbe56a8d8619279f133abbaaf0f33eef6536845780e155db5c8581f31ea403"), looks := false }, kinds := [], alts := [], laidByText := true, laidKinds := [.data, .data, .data], laidTests := true, laidLooks := .later }
def TrapCallCardSaid : Prop := Claim7.holds Tryz.pinned (.plain (OpenSpec.ofChange trapCallSpec)) trapCallCard

/-- THE TIED CARD OF 'bailifflaw16.TrapConstruct'. -/
def trapConstructCard : Claim7 := { stood := { row := trapConstructRow, standIns := [], harness := (true, "e4fbe56a8d8619279f133abbaaf0f33eef6536845780e155db5c8581f31ea403"), looks := false }, kinds := [], alts := [], laidByText := true, laidKinds := [.data, .data, .data], laidTests := true, laidLooks := .later }
def TrapConstructCardSaid : Prop := Claim7.holds Tryz.pinned (.plain (OpenSpec.ofChange trapConstructSpec)) trapConstructCard

/-- THE SECOND FORM's CARD OF 'bailifflaw16.TrapNames'. -/
def trapNamesUptoCard : Claim7 := { stood := { row := trapNamesUptoRow, standIns := [], harness := (true, "e4fbe56a8d8619279f133abbaaf0f33eef6536845780e155db5c8581f31ea403"), looks := false }, kinds := [], alts := [], laidByText := true, laidKinds := [.data, .data, .data], laidTests := true, laidLooks := .later }
def TrapNamesUptoCardSaid : Prop := Claim7.holds Tryz.pinned (.plain (OpenSpec.upto trapNamesSpec)) trapNamesUptoCard

/-- THE SECOND FORM's CARD OF 'bailifflaw16.TrapChecks'. -/
def trapChecksUptoCard : Claim7 := { stood := { row := trapChecksUptoRow, standIns := [], harness := (true, "e4fbe56a8d8619279f133abbaaf0f33eef6536845780e155db5c8581f31ea403"), looks := false }, kinds := [], alts := [], laidByText := true, laidKinds := [.data, .data, .data], laidTests := true, laidLooks := .later }
def TrapChecksUptoCardSaid : Prop := Claim7.holds Tryz.pinned (.plain (OpenSpec.upto trapChecksSpec)) trapChecksUptoCard

/-- THE SECOND FORM's CARD OF 'bailifflaw16.TrapGetPrototypeOf'. -/
def trapGetPrototypeOfUptoCard : Claim7 := { stood := { row := trapGetPrototypeOfUptoRow, standIns := [], harness := (true, "e4fbe56a8d8619279f133abbaaf0f33eef6536845780e155db5c8581f31ea403"), looks := false }, kinds := [], alts := [], laidByText := true, laidKinds := [.data, .data, .data], laidTests := true, laidLooks := .later }
def TrapGetPrototypeOfUptoCardSaid : Prop := Claim7.holds Tryz.pinned (.plain (OpenSpec.upto trapGetPrototypeOfSpec)) trapGetPrototypeOfUptoCard

/-- THE SECOND FORM's CARD OF 'bailifflaw16.TrapSetPrototypeOf'. -/
def trapSetPrototypeOfUptoCard : Claim7 := { stood := { row := trapSetPrototypeOfUptoRow, standIns := [], harness := (true, "e4fbe56a8d8619279f133abbaaf0f33eef6536845780e155db5c8581f31ea403"), looks := false }, kinds := [], alts := [], laidByText := true, laidKinds := [.data, .data, .data], laidTests := true, laidLooks := .later }
def TrapSetPrototypeOfUptoCardSaid : Prop := Claim7.holds Tryz.pinned (.plain (OpenSpec.upto trapSetPrototypeOfSpec)) trapSetPrototypeOfUptoCard

/-- THE SECOND FORM's CARD OF 'bailifflaw16.TrapIsExtensible'. -/
def trapIsExtensibleUptoCard : Claim7 := { stood := { row := trapIsExtensibleUptoRow, standIns := [], harness := (true, "e4fbe56a8d8619279f133abbaaf0f33eef6536845780e155db5c8581f31ea403"), looks := false }, kinds := [], alts := [], laidByText := true, laidKinds := [.data, .data, .data], laidTests := true, laidLooks := .later }
def TrapIsExtensibleUptoCardSaid : Prop := Claim7.holds Tryz.pinned (.plain (OpenSpec.upto trapIsExtensibleSpec)) trapIsExtensibleUptoCard

/-- THE SECOND FORM's CARD OF 'bailifflaw16.TrapPreventExtensions'. -/
def trapPreventExtensionsUptoCard : Claim7 := { stood := { row := trapPreventExtensionsUptoRow, standIns := [], harness := (true, "e4fbe56a8d8619279f133abbaaf0f33eef6536845780e155db5c8581f31ea403"), looks := false }, kinds := [], alts := [], laidByText := true, laidKinds := [.data, .data, .data], laidTests := true, laidLooks := .later }
def TrapPreventExtensionsUptoCardSaid : Prop := Claim7.holds Tryz.pinned (.plain (OpenSpec.upto trapPreventExtensionsSpec)) trapPreventExtensionsUptoCard

/-- THE SECOND FORM's CARD OF 'bailifflaw16.TrapGetOwnProperty'. -/
def trapGetOwnPropertyUptoCard : Claim7 := { stood := { row := trapGetOwnPropertyUptoRow, standIns := [], harness := (true, "e4fbe56a8d8619279f133abbaaf0f33eef6536845780e155db5c8581f31ea403"), looks := false }, kinds := [], alts := [], laidByText := true, laidKinds := [.data, .data, .data], laidTests := true, laidLooks := .later }
def TrapGetOwnPropertyUptoCardSaid : Prop := Claim7.holds Tryz.pinned (.plain (OpenSpec.upto trapGetOwnPropertySpec)) trapGetOwnPropertyUptoCard

/-- THE SECOND FORM's CARD OF 'bailifflaw16.TrapDefineOwnProperty'. -/
def trapDefineOwnPropertyUptoCard : Claim7 := { stood := { row := trapDefineOwnPropertyUptoRow, standIns := [], harness := (true, "e4fbe56a8d8619279f133abbaaf0f33eef6536845780e155db5c8581f31ea403"), looks := false }, kinds := [], alts := [], laidByText := true, laidKinds := [.data, .data, .data], laidTests := true, laidLooks := .later }
def TrapDefineOwnPropertyUptoCardSaid : Prop := Claim7.holds Tryz.pinned (.plain (OpenSpec.upto trapDefineOwnPropertySpec)) trapDefineOwnPropertyUptoCard

/-- THE SECOND FORM's CARD OF 'bailifflaw16.TrapHasProperty'. -/
def trapHasPropertyUptoCard : Claim7 := { stood := { row := trapHasPropertyUptoRow, standIns := [], harness := (true, "e4fbe56a8d8619279f133abbaaf0f33eef6536845780e155db5c8581f31ea403"), looks := false }, kinds := [], alts := [], laidByText := true, laidKinds := [.data, .data, .data], laidTests := true, laidLooks := .later }
def TrapHasPropertyUptoCardSaid : Prop := Claim7.holds Tryz.pinned (.plain (OpenSpec.upto trapHasPropertySpec)) trapHasPropertyUptoCard

/-- THE SECOND FORM's CARD OF 'bailifflaw16.TrapGet'. -/
def trapGetUptoCard : Claim7 := { stood := { row := trapGetUptoRow, standIns := [], harness := (true, "e4fbe56a8d8619279f133abbaaf0f33eef6536845780e155db5c8581f31ea403"), looks := false }, kinds := [], alts := [], laidByText := true, laidKinds := [.data, .data, .data], laidTests := true, laidLooks := .later }
def TrapGetUptoCardSaid : Prop := Claim7.holds Tryz.pinned (.plain (OpenSpec.upto trapGetSpec)) trapGetUptoCard

/-- THE SECOND FORM's CARD OF 'bailifflaw16.TrapSet'. -/
def trapSetUptoCard : Claim7 := { stood := { row := trapSetUptoRow, standIns := [], harness := (true, "e4fbe56a8d8619279f133abbaaf0f33eef6536845780e155db5c8581f31ea403"), looks := false }, kinds := [], alts := [], laidByText := true, laidKinds := [.data, .data, .data], laidTests := true, laidLooks := .later }
def TrapSetUptoCardSaid : Prop := Claim7.holds Tryz.pinned (.plain (OpenSpec.upto trapSetSpec)) trapSetUptoCard

/-- THE SECOND FORM's CARD OF 'bailifflaw16.TrapDelete'. -/
def trapDeleteUptoCard : Claim7 := { stood := { row := trapDeleteUptoRow, standIns := [], harness := (true, "e4fbe56a8d8619279f133abbaaf0f33eef6536845780e155db5c8581f31ea403"), looks := false }, kinds := [], alts := [], laidByText := true, laidKinds := [.data, .data, .data], laidTests := true, laidLooks := .later }
def TrapDeleteUptoCardSaid : Prop := Claim7.holds Tryz.pinned (.plain (OpenSpec.upto trapDeleteSpec)) trapDeleteUptoCard

/-- THE SECOND FORM's CARD OF 'bailifflaw16.TrapOwnKeys'. -/
def trapOwnKeysUptoCard : Claim7 := { stood := { row := trapOwnKeysUptoRow, standIns := [], harness := (true, "e4fbe56a8d8619279f133abbaaf0f33eef6536845780e155db5c8581f31ea403"), looks := false }, kinds := [], alts := [], laidByText := true, laidKinds := [.data, .data, .data], laidTests := true, laidLooks := .later }
def TrapOwnKeysUptoCardSaid : Prop := Claim7.holds Tryz.pinned (.plain (OpenSpec.upto trapOwnKeysSpec)) trapOwnKeysUptoCard

/-- THE SECOND FORM's CARD OF 'bailifflaw16.TrapCall'. -/
def trapCallUptoCard : Claim7 := { stood := { row := trapCallUptoRow, standIns := [], harness := (true, "e4fbe56a8d8619279f133abbaaf0f33eef6536845780e155db5c8581f31ea403"), looks := false }, kinds := [], alts := [], laidByText := true, laidKinds := [.data, .data, .data], laidTests := true, laidLooks := .later }
def TrapCallUptoCardSaid : Prop := Claim7.holds Tryz.pinned (.plain (OpenSpec.upto trapCallSpec)) trapCallUptoCard

/-- THE SECOND FORM's CARD OF 'bailifflaw16.TrapConstruct'. -/
def trapConstructUptoCard : Claim7 := { stood := { row := trapConstructUptoRow, standIns := [], harness := (true, "e4fbe56a8d8619279f133abbaaf0f33eef6536845780e155db5c8581f31ea403"), looks := false }, kinds := [], alts := [], laidByText := true, laidKinds := [.data, .data, .data], laidTests := true, laidLooks := .later }
def TrapConstructUptoCardSaid : Prop := Claim7.holds Tryz.pinned (.plain (OpenSpec.upto trapConstructSpec)) trapConstructUptoCard
end Rows
end Go.Proofs.YtmlmleimmeniiaaGreatDoor
