/- WHAT IS PROVED: the given statement 'HeapNamesUptoCardSaid': the law HeapNames returns true for every input of bulk at most 1048576, and its arguments read afterwards as before; the listed variables tied to the program's text. No condition of our own. -/
import Derived.Test.YtigamceihkiocabDoorCards
import Derived.Test.YtigamceihkiocabDoorTie
import Derived.Lib.LaidIn
import Derived.Deep.DeepHandedRow
import Derived.SevenTiedAt
import Derived.Test.YtigamceihkiocabDoorFwF
section
set_option linter.unusedVariables false
set_option linter.unusedSimpArgs false
set_option linter.unusedSectionVars false
namespace Go.Proofs.YtigamceihkiocabDoor.FwZ3
open Go.Proofs Go.Proofs.YtigamceihkiocabDoor Go.RowKit Go.ChangeShapes
set_option maxRecDepth 100000
set_option linter.unusedVariables false
theorem a2 : Tryd.pinned.checked.prog.funcNamed Rows.heapNamesUptoRow.func=some 3:=by kernel_rfl
theorem a3 : joinedFacts Tryd.pinned.checked.prog 3 Tryd.f3 (Rows.OpenSpec.upto Rows.heapNamesSpec).bare Rows.heapNamesUptoRow=true:=by kernel_rfl
theorem a4 : Tryd.f3.isInstance Tryd.pinned.checked.prog Rows.heapNamesUptoRow.origin Rows.heapNamesUptoRow.targs:=of_decide_eq_true (by kernel_rfl)
theorem a5 : Tryd.f3.isWrapper Tryd.pinned.checked.prog Rows.heapNamesUptoRow.wrapper Rows.heapNamesUptoRow.mainSum:=by unfold Func.isWrapper;first|(rw [if_pos (by decide +kernel)];kernel_rfl)|(rw [if_neg (by decide +kernel)];exact ⟨rfl,rfl⟩)
theorem pre_ok (H:Type)(enc:TypeId×Value→H)(F:Stop.Interp)(os:Os)(h:ReturnsInHanded {} Tryd.checked os 3 .any ((Rows.OpenSpec.upto Rows.heapNamesSpec).preRow enc Tryd.prog Tryd.f3 Rows.heapNamesUptoRow.domain false Rows.heapNamesUptoRow.laid) (((Rows.OpenSpec.upto Rows.heapNamesSpec).at F).post enc Tryd.prog Tryd.f3 false true false false)) :
  ReturnsInHanded Rows.heapNamesUptoRow.assume Tryd.pinned.checked os 3 .any (Rows.heapNamesUptoRow.pre enc Tryd.pinned.checked.prog Tryd.f3 (Rows.OpenSpec.upto Rows.heapNamesSpec)) (((Rows.OpenSpec.upto Rows.heapNamesSpec).at F).post enc Tryd.pinned.checked.prog Tryd.f3 Rows.heapNamesUptoRow.apart Rows.heapNamesUptoRow.fresh Rows.heapNamesUptoRow.handsOn Rows.heapNamesUptoRow.again):=by
 rw [OpenClaim.pre_eq_preRow];exact h
theorem row_holds : Rows.HeapNamesUptoSaid:=
 OpenClaim.holds_of_cond 3 Tryd.f3 rfl rfl rfl rfl rfl rfl rfl ⟨rfl,rfl,rfl,rfl,rfl⟩ rfl rfl rfl rfl rfl a2 Tryd.func3 a3 a4 a5
  (fun os started H enc _ F=>pre_ok H enc F os (lifted os started H enc F))
theorem holds : Rows.HeapNamesUptoCardSaid:=
 Claim7.holds_tied_plain_at .later [] [.data,.data,.data] true (true, "529a94f7d8185ec443e3801083af7e2ec02554230606da8df1fe11f731b29ff1") false
  row_holds (fun _ h=>by cases h) (by kernel_rfl) (fun _ h=>by cases h) heapNamesUpto_row_tie rfl ⟨rfl,rfl⟩ (by kernel_rfl) rfl
  (fun f fn hf hfn=>by
   obtain rfl:f=3:=Option.some.inj ((show Tryd.prog.funcNamed "bailiff/bailifflaw11.HeapNames" = some 3 by kernel_rfl).symm.trans hf) |>.symm
   obtain rfl:fn=Tryd.f3:=(Option.some.inj (Tryd.func3.symm.trans hfn)).symm
   exact ⟨by kernel_rfl,fun j t ht=>by
    rw [show Tryd.f3.params=#[] by kernel_rfl] at ht
    simp at ht⟩)
  (by kernel_rfl)
end Go.Proofs.YtigamceihkiocabDoor.FwZ3
end
