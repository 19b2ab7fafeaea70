/- WHAT IS PROVED: the given statement 'TrapGetUptoCardSaid': the law TrapGet returns true for every input of bulk at most 1048576, and its arguments read afterwards as before; the listed variables tied to the program's text. No condition of our own. -/
import Derived.Test.YtmlmleimmeniiaaGreatDoorCards
import Derived.Test.YtmlmleimmeniiaaGreatDoorTie
import Derived.Lib.LaidIn
import Derived.Deep.DeepHandedRow
import Derived.SevenTiedAt
import Derived.Test.YtmlmleimmeniiaaGreatDoorFwZ12
section
namespace Go.Proofs.YtmlmleimmeniiaaGreatDoor.FwZ12
open Go.Proofs Go.Proofs.YtmlmleimmeniiaaGreatDoor Go.RowKit Go.ChangeShapes
set_option maxRecDepth 100000
set_option linter.unusedVariables false
theorem a2 : Tryz.pinned.checked.prog.funcNamed Rows.trapGetUptoRow.func = some 12 := by kernel_rfl
theorem a3 : joinedFacts Tryz.pinned.checked.prog 12 Tryz.f12 (Rows.OpenSpec.upto Rows.trapGetSpec).bare Rows.trapGetUptoRow = true := by kernel_rfl
theorem a4 : Tryz.f12.isInstance Tryz.pinned.checked.prog Rows.trapGetUptoRow.origin Rows.trapGetUptoRow.targs := of_decide_eq_true (by kernel_rfl)
theorem a5 : Tryz.f12.isWrapper Tryz.pinned.checked.prog Rows.trapGetUptoRow.wrapper Rows.trapGetUptoRow.mainSum := by unfold Func.isWrapper; first | (rw [if_pos (by decide +kernel)]; kernel_rfl) | (rw [if_neg (by decide +kernel)]; exact ⟨rfl, rfl⟩)
theorem pre_ok (H : Type) (enc : TypeId × Value → H) (F : Stop.Interp) (os : Os) (h : ReturnsInHanded {} Tryz.checked os 12 .any ((Rows.OpenSpec.upto Rows.trapGetSpec).preRow enc Tryz.prog Tryz.f12 Rows.trapGetUptoRow.domain false Rows.trapGetUptoRow.laid) (((Rows.OpenSpec.upto Rows.trapGetSpec).at F).post enc Tryz.prog Tryz.f12 false true false false)) :
   ReturnsInHanded Rows.trapGetUptoRow.assume Tryz.pinned.checked os 12 .any (Rows.trapGetUptoRow.pre enc Tryz.pinned.checked.prog Tryz.f12 (Rows.OpenSpec.upto Rows.trapGetSpec)) (((Rows.OpenSpec.upto Rows.trapGetSpec).at F).post enc Tryz.pinned.checked.prog Tryz.f12 Rows.trapGetUptoRow.apart Rows.trapGetUptoRow.fresh Rows.trapGetUptoRow.handsOn Rows.trapGetUptoRow.again) := by
  rw [OpenClaim.pre_eq_preRow]; exact h
theorem row_holds : Rows.TrapGetUptoSaid :=
  OpenClaim.holds_of_cond 12 Tryz.f12 rfl rfl rfl rfl rfl rfl rfl ⟨rfl, rfl, rfl, rfl, rfl⟩ rfl rfl rfl rfl rfl a2 Tryz.func12 a3 a4 a5
    (fun os started H enc _ F => pre_ok H enc F os (lifted os started H enc F))
theorem holds : Rows.TrapGetUptoCardSaid :=
  Claim7.holds_tied_plain_at .later [] [.data, .data, .data] true (true, "e4fbe56a8d8619279f133abbaaf0f33eef6536845780e155db5c8581f31ea403") false
    row_holds (fun _ h => by cases h) (by kernel_rfl) (fun _ h => by cases h) trapGetUpto_row_tie rfl ⟨rfl, rfl⟩ (by kernel_rfl) rfl
    (fun f fn hf hfn => by
      obtain rfl : f = 12 := Option.some.inj ((show Tryz.prog.funcNamed "bailiff/bailifflaw16.TrapGet" = some 12 by kernel_rfl).symm.trans hf) |>.symm
      obtain rfl : fn = Tryz.f12 := (Option.some.inj (Tryz.func12.symm.trans hfn)).symm
      exact ⟨by kernel_rfl, fun j t ht => by
        rw [Tryz.params12] at ht
        have hm : t ∈ ([32, 24, 4, 26, 24] : List Nat) := by have := Array.mem_of_getElem? ht; simpa using this
        simp only [List.mem_cons, List.not_mem_nil, or_false] at hm
        rcases hm with rfl | rfl | rfl | rfl | rfl
        · exact (show Tryz.prog.wantsStandIn 32 = false by kernel_rfl)
        · exact (show Tryz.prog.wantsStandIn 24 = false by kernel_rfl)
        · exact (show Tryz.prog.wantsStandIn 4 = false by kernel_rfl)
        · exact (show Tryz.prog.wantsStandIn 26 = false by kernel_rfl)
        · exact (show Tryz.prog.wantsStandIn 24 = false by kernel_rfl)⟩)
    (by kernel_rfl)
end Go.Proofs.YtmlmleimmeniiaaGreatDoor.FwZ12
end
