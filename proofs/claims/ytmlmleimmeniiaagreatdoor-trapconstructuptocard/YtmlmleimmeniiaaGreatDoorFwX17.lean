/- WHAT IS PROVED: the given statement 'TrapConstructUptoCardSaid': the law TrapConstruct returns true for every input of bulk at most 1048576, and its arguments read afterwards as before; the listed variables tied to the program's text. No condition of our own. -/
import Derived.Test.YtmlmleimmeniiaaGreatDoorCards
import Derived.Test.YtmlmleimmeniiaaGreatDoorTie
import Derived.Lib.LaidIn
import Derived.Deep.DeepHandedRow
import Derived.SevenTiedAt
import Derived.Test.YtmlmleimmeniiaaGreatDoorFwZ17
section
namespace Go.Proofs.YtmlmleimmeniiaaGreatDoor.FwZ17
open Go.Proofs Go.Proofs.YtmlmleimmeniiaaGreatDoor Go.RowKit Go.ChangeShapes
set_option maxRecDepth 100000
set_option linter.unusedVariables false
theorem a2 : Tryz.pinned.checked.prog.funcNamed Rows.trapConstructUptoRow.func = some 17 := by kernel_rfl
theorem a3 : joinedFacts Tryz.pinned.checked.prog 17 Tryz.f17 (Rows.OpenSpec.upto Rows.trapConstructSpec).bare Rows.trapConstructUptoRow = true := by kernel_rfl
theorem a4 : Tryz.f17.isInstance Tryz.pinned.checked.prog Rows.trapConstructUptoRow.origin Rows.trapConstructUptoRow.targs := of_decide_eq_true (by kernel_rfl)
theorem a5 : Tryz.f17.isWrapper Tryz.pinned.checked.prog Rows.trapConstructUptoRow.wrapper Rows.trapConstructUptoRow.mainSum := by unfold Func.isWrapper; first | (rw [if_pos (by decide +kernel)]; kernel_rfl) | (rw [if_neg (by decide +kernel)]; exact ⟨rfl, rfl⟩)
theorem pre_ok (H : Type) (enc : TypeId × Value → H) (F : Stop.Interp) (os : Os) (h : ReturnsInHanded {} Tryz.checked os 17 .any ((Rows.OpenSpec.upto Rows.trapConstructSpec).preRow enc Tryz.prog Tryz.f17 Rows.trapConstructUptoRow.domain false Rows.trapConstructUptoRow.laid) (((Rows.OpenSpec.upto Rows.trapConstructSpec).at F).post enc Tryz.prog Tryz.f17 false true false false)) :
   ReturnsInHanded Rows.trapConstructUptoRow.assume Tryz.pinned.checked os 17 .any (Rows.trapConstructUptoRow.pre enc Tryz.pinned.checked.prog Tryz.f17 (Rows.OpenSpec.upto Rows.trapConstructSpec)) (((Rows.OpenSpec.upto Rows.trapConstructSpec).at F).post enc Tryz.pinned.checked.prog Tryz.f17 Rows.trapConstructUptoRow.apart Rows.trapConstructUptoRow.fresh Rows.trapConstructUptoRow.handsOn Rows.trapConstructUptoRow.again) := by
  rw [OpenClaim.pre_eq_preRow]; exact h
theorem row_holds : Rows.TrapConstructUptoSaid :=
  OpenClaim.holds_of_cond 17 Tryz.f17 rfl rfl rfl rfl rfl rfl rfl ⟨rfl, rfl, rfl, rfl, rfl⟩ rfl rfl rfl rfl rfl a2 Tryz.func17 a3 a4 a5
    (fun os started H enc _ F => pre_ok H enc F os (lifted os started H enc F))
theorem holds : Rows.TrapConstructUptoCardSaid :=
  Claim7.holds_tied_plain_at .later [] [.data, .data, .data] true (true, "e4fbe56a8d8619279f133abbaaf0f33eef6536845780e155db5c8581f31ea403") false
    row_holds (fun _ h => by cases h) (by kernel_rfl) (fun _ h => by cases h) trapConstructUpto_row_tie rfl ⟨rfl, rfl⟩ (by kernel_rfl) rfl
    (fun f fn hf hfn => by
      obtain rfl : f = 17 := Option.some.inj ((show Tryz.prog.funcNamed "bailiff/bailifflaw16.TrapConstruct" = some 17 by kernel_rfl).symm.trans hf) |>.symm
      obtain rfl : fn = Tryz.f17 := (Option.some.inj (Tryz.func17.symm.trans hfn)).symm
      exact ⟨by kernel_rfl, fun j t ht => by
        rw [Tryz.params17] at ht
        have hm : t ∈ ([33, 24] : List Nat) := by have := Array.mem_of_getElem? ht; simpa using this
        simp only [List.mem_cons, List.not_mem_nil, or_false] at hm
        rcases hm with rfl | rfl
        · exact (show Tryz.prog.wantsStandIn 33 = false by kernel_rfl)
        · exact (show Tryz.prog.wantsStandIn 24 = false by kernel_rfl)⟩)
    (by kernel_rfl)
end Go.Proofs.YtmlmleimmeniiaaGreatDoor.FwZ17
end
