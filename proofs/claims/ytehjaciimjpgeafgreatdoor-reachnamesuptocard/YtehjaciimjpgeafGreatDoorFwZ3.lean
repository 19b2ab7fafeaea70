/- WHAT IS PROVED: the given statement 'ReachNamesUptoCardSaid': the law ReachNames returns true for every input of bulk at most 1048576, and its arguments read afterwards as before; the listed variables tied to the program's text. No condition of our own. -/
import Derived.Test.YtehjaciimjpgeafGreatDoorCards
import Derived.Test.YtehjaciimjpgeafGreatDoorTie
import Derived.Lib.LaidIn
import Derived.Deep.DeepHandedRow
import Derived.SevenTiedAt
import Derived.Test.YtehjaciimjpgeafGreatDoorFwY3
section
namespace Go.Proofs.YtehjaciimjpgeafGreatDoor.FwZ3
open Go.Proofs Go.Proofs.YtehjaciimjpgeafGreatDoor Go.RowKit Go.ChangeShapes
set_option maxRecDepth 100000
set_option linter.unusedVariables false
theorem a2 : Tryz.pinned.checked.prog.funcNamed Rows.reachNamesUptoRow.func = some 3 := by kernel_rfl
theorem a3 : joinedFacts Tryz.pinned.checked.prog 3 Tryz.f3 (Rows.OpenSpec.upto Rows.reachNamesSpec).bare Rows.reachNamesUptoRow = true := by kernel_rfl
theorem a4 : Tryz.f3.isInstance Tryz.pinned.checked.prog Rows.reachNamesUptoRow.origin Rows.reachNamesUptoRow.targs := of_decide_eq_true (by kernel_rfl)
theorem a5 : Tryz.f3.isWrapper Tryz.pinned.checked.prog Rows.reachNamesUptoRow.wrapper Rows.reachNamesUptoRow.mainSum := by unfold Func.isWrapper; first | (rw [if_pos (by decide +kernel)]; kernel_rfl) | (rw [if_neg (by decide +kernel)]; exact ⟨rfl, rfl⟩)
theorem pre_ok (H : Type) (enc : TypeId × Value → H) (F : Stop.Interp) (os : Os) (h : ReturnsInHanded {} Tryz.checked os 3 .any ((Rows.OpenSpec.upto Rows.reachNamesSpec).preRow enc Tryz.prog Tryz.f3 Rows.reachNamesUptoRow.domain false Rows.reachNamesUptoRow.laid) (((Rows.OpenSpec.upto Rows.reachNamesSpec).at F).post enc Tryz.prog Tryz.f3 false true false false)) :
   ReturnsInHanded Rows.reachNamesUptoRow.assume Tryz.pinned.checked os 3 .any (Rows.reachNamesUptoRow.pre enc Tryz.pinned.checked.prog Tryz.f3 (Rows.OpenSpec.upto Rows.reachNamesSpec)) (((Rows.OpenSpec.upto Rows.reachNamesSpec).at F).post enc Tryz.pinned.checked.prog Tryz.f3 Rows.reachNamesUptoRow.apart Rows.reachNamesUptoRow.fresh Rows.reachNamesUptoRow.handsOn Rows.reachNamesUptoRow.again) := by
  rw [OpenClaim.pre_eq_preRow]; exact h
theorem row_holds : Rows.ReachNamesUptoSaid :=
  OpenClaim.holds_of_cond 3 Tryz.f3 rfl rfl rfl rfl rfl rfl rfl ⟨rfl, rfl, rfl, rfl, rfl⟩ rfl rfl rfl rfl rfl a2 Tryz.func3 a3 a4 a5
    (fun os started H enc _ F => pre_ok H enc F os (lifted os started H enc F))
theorem holds : Rows.ReachNamesUptoCardSaid :=
  Claim7.holds_tied_plain_at .later [] [.data, .data, .data] true (true, "08e0a5d6432cd54b783aabcbde514a98a07aba78013e314e07845bcf49aea3fa") false
    row_holds (fun _ h => by cases h) (by kernel_rfl) (fun _ h => by cases h) reachNamesUpto_row_tie rfl ⟨rfl, rfl⟩ (by kernel_rfl) rfl
    (fun f fn hf hfn => by
      obtain rfl : f = 3 := Option.some.inj ((show Tryz.prog.funcNamed "bailiff/bailifflaw18.ReachNames" = some 3 by kernel_rfl).symm.trans hf) |>.symm
      obtain rfl : fn = Tryz.f3 := (Option.some.inj (Tryz.func3.symm.trans hfn)).symm
      exact ⟨by kernel_rfl, fun j t ht => by
        rw [show Tryz.f3.params = #[] by kernel_rfl] at ht
        simp at ht⟩)
    (by kernel_rfl)
end Go.Proofs.YtehjaciimjpgeafGreatDoor.FwZ3
end
