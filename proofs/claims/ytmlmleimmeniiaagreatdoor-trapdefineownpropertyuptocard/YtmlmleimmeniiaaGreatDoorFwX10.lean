/- WHAT IS PROVED: the given statement 'TrapDefineOwnPropertyUptoCardSaid': the law TrapDefineOwnProperty returns true for every input of bulk at most 1048576, and its arguments read afterwards as before; the listed variables tied to the program's text. No condition of our own. -/
import Derived.Test.YtmlmleimmeniiaaGreatDoorCards
import Derived.Test.YtmlmleimmeniiaaGreatDoorTie
import Derived.Lib.LaidIn
import Derived.Deep.DeepHandedRow
import Derived.SevenTiedAt
import Derived.Test.YtmlmleimmeniiaaGreatDoorFwZ10
section
namespace Go.Proofs.YtmlmleimmeniiaaGreatDoor.FwZ10
open Go.Proofs Go.Proofs.YtmlmleimmeniiaaGreatDoor Go.RowKit Go.ChangeShapes
set_option maxRecDepth 100000
set_option linter.unusedVariables false
theorem a2 : Tryz.pinned.checked.prog.funcNamed Rows.trapDefineOwnPropertyUptoRow.func = some 10 := by kernel_rfl
theorem a3 : joinedFacts Tryz.pinned.checked.prog 10 Tryz.f10 (Rows.OpenSpec.upto Rows.trapDefineOwnPropertySpec).bare Rows.trapDefineOwnPropertyUptoRow = true := by kernel_rfl
theorem a4 : Tryz.f10.isInstance Tryz.pinned.checked.prog Rows.trapDefineOwnPropertyUptoRow.origin Rows.trapDefineOwnPropertyUptoRow.targs := of_decide_eq_true (by kernel_rfl)
theorem a5 : Tryz.f10.isWrapper Tryz.pinned.checked.prog Rows.trapDefineOwnPropertyUptoRow.wrapper Rows.trapDefineOwnPropertyUptoRow.mainSum := by unfold Func.isWrapper; first | (rw [if_pos (by decide +kernel)]; kernel_rfl) | (rw [if_neg (by decide +kernel)]; exact ⟨rfl, rfl⟩)
theorem pre_ok (H : Type) (enc : TypeId × Value → H) (F : Stop.Interp) (os : Os) (h : ReturnsInHanded {} Tryz.checked os 10 .any ((Rows.OpenSpec.upto Rows.trapDefineOwnPropertySpec).preRow enc Tryz.prog Tryz.f10 Rows.trapDefineOwnPropertyUptoRow.domain false Rows.trapDefineOwnPropertyUptoRow.laid) (((Rows.OpenSpec.upto Rows.trapDefineOwnPropertySpec).at F).post enc Tryz.prog Tryz.f10 false true false false)) :
   ReturnsInHanded Rows.trapDefineOwnPropertyUptoRow.assume Tryz.pinned.checked os 10 .any (Rows.trapDefineOwnPropertyUptoRow.pre enc Tryz.pinned.checked.prog Tryz.f10 (Rows.OpenSpec.upto Rows.trapDefineOwnPropertySpec)) (((Rows.OpenSpec.upto Rows.trapDefineOwnPropertySpec).at F).post enc Tryz.pinned.checked.prog Tryz.f10 Rows.trapDefineOwnPropertyUptoRow.apart Rows.trapDefineOwnPropertyUptoRow.fresh Rows.trapDefineOwnPropertyUptoRow.handsOn Rows.trapDefineOwnPropertyUptoRow.again) := by
  rw [OpenClaim.pre_eq_preRow]; exact h
theorem row_holds : Rows.TrapDefineOwnPropertyUptoSaid :=
  OpenClaim.holds_of_cond 10 Tryz.f10 rfl rfl rfl rfl rfl rfl rfl ⟨rfl, rfl, rfl, rfl, rfl⟩ rfl rfl rfl rfl rfl a2 Tryz.func10 a3 a4 a5
    (fun os started H enc _ F => pre_ok H enc F os (lifted os started H enc F))
theorem holds : Rows.TrapDefineOwnPropertyUptoCardSaid :=
  Claim7.holds_tied_plain_at .later [] [.data, .data, .data] true (true, "e4fbe56a8d8619279f133abbaaf0f33eef6536845780e155db5c8581f31ea403") false
    row_holds (fun _ h => by cases h) (by kernel_rfl) (fun _ h => by cases h) trapDefineOwnPropertyUpto_row_tie rfl ⟨rfl, rfl⟩ (by kernel_rfl) rfl
    (fun f fn hf hfn => by
      obtain rfl : f = 10 := Option.some.inj ((show Tryz.prog.funcNamed "bailiff/bailifflaw16.TrapDefineOwnProperty" = some 10 by kernel_rfl).symm.trans hf) |>.symm
      obtain rfl : fn = Tryz.f10 := (Option.some.inj (Tryz.func10.symm.trans hfn)).symm
      exact ⟨by kernel_rfl, fun j t ht => by
        rw [Tryz.params10] at ht
        have hm : t ∈ ([32, 26, 24, 4, 4, 26] : List Nat) := by have := Array.mem_of_getElem? ht; simpa using this
        simp only [List.mem_cons, List.not_mem_nil, or_false] at hm
        rcases hm with rfl | rfl | rfl | rfl | rfl | rfl
        · exact (show Tryz.prog.wantsStandIn 32 = false by kernel_rfl)
        · exact (show Tryz.prog.wantsStandIn 26 = false by kernel_rfl)
        · exact (show Tryz.prog.wantsStandIn 24 = false by kernel_rfl)
        · exact (show Tryz.prog.wantsStandIn 4 = false by kernel_rfl)
        · exact (show Tryz.prog.wantsStandIn 4 = false by kernel_rfl)
        · exact (show Tryz.prog.wantsStandIn 26 = false by kernel_rfl)⟩)
    (by kernel_rfl)
end Go.Proofs.YtmlmleimmeniiaaGreatDoor.FwZ10
end
