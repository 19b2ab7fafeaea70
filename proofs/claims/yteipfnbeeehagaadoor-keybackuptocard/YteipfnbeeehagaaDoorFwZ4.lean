/- WHAT IS PROVED: the given statement 'KeyBackUptoCardSaid': the law KeyBack returns true for every input of bulk at most 1048576, and its arguments read afterwards as before; the listed variables tied to the program's text. No condition of our own. -/
import Derived.Test.YteipfnbeeehagaaDoorCards
import Derived.Test.YteipfnbeeehagaaDoorTie
import Derived.Lib.LaidIn
import Derived.Deep.DeepHandedRow
import Derived.SevenTiedAt
import Derived.Test.YteipfnbeeehagaaDoorFwF
section
set_option linter.unusedVariables false
set_option linter.unusedSimpArgs false
set_option linter.unusedSectionVars false
namespace Go.Proofs.YteipfnbeeehagaaDoor.FwZ4
open Go.Proofs Go.Proofs.YteipfnbeeehagaaDoor Go.RowKit Go.ChangeShapes
set_option maxRecDepth 100000
set_option linter.unusedVariables false
theorem a2 : Tryd.pinned.checked.prog.funcNamed Rows.keyBackUptoRow.func=some 4:=by kernel_rfl
theorem a3 : joinedFacts Tryd.pinned.checked.prog 4 Tryd.f4 (Rows.OpenSpec.upto Rows.keyBackSpec).bare Rows.keyBackUptoRow=true:=by kernel_rfl
theorem a4 : Tryd.f4.isInstance Tryd.pinned.checked.prog Rows.keyBackUptoRow.origin Rows.keyBackUptoRow.targs:=of_decide_eq_true (by kernel_rfl)
theorem a5 : Tryd.f4.isWrapper Tryd.pinned.checked.prog Rows.keyBackUptoRow.wrapper Rows.keyBackUptoRow.mainSum:=by unfold Func.isWrapper;first|(rw [if_pos (by decide +kernel)];kernel_rfl)|(rw [if_neg (by decide +kernel)];exact ⟨rfl,rfl⟩)
theorem pre_ok (H:Type)(enc:TypeId×Value→H)(F:Stop.Interp)(os:Os)(h:ReturnsInHanded {} Tryd.checked os 4 .any ((Rows.OpenSpec.upto Rows.keyBackSpec).preRow enc Tryd.prog Tryd.f4 Rows.keyBackUptoRow.domain false Rows.keyBackUptoRow.laid) (((Rows.OpenSpec.upto Rows.keyBackSpec).at F).post enc Tryd.prog Tryd.f4 false true false false)) :
  ReturnsInHanded Rows.keyBackUptoRow.assume Tryd.pinned.checked os 4 .any (Rows.keyBackUptoRow.pre enc Tryd.pinned.checked.prog Tryd.f4 (Rows.OpenSpec.upto Rows.keyBackSpec)) (((Rows.OpenSpec.upto Rows.keyBackSpec).at F).post enc Tryd.pinned.checked.prog Tryd.f4 Rows.keyBackUptoRow.apart Rows.keyBackUptoRow.fresh Rows.keyBackUptoRow.handsOn Rows.keyBackUptoRow.again):=by
 rw [OpenClaim.pre_eq_preRow];exact h
theorem row_holds : Rows.KeyBackUptoSaid:=
 OpenClaim.holds_of_cond 4 Tryd.f4 rfl rfl rfl rfl rfl rfl rfl ⟨rfl,rfl,rfl,rfl,rfl⟩ rfl rfl rfl rfl rfl a2 Tryd.func4 a3 a4 a5
  (fun os started H enc _ F=>pre_ok H enc F os (lifted os started H enc F))
theorem holds : Rows.KeyBackUptoCardSaid:=
 Claim7.holds_tied_plain_at .later [] [.data,.data,.data] true (true, "9fbbc67bfcf1cba16291bd501d910d10ed9267f226c56fbffc160176c4981216") false
  row_holds (fun _ h=>by cases h) (by kernel_rfl) (fun _ h=>by cases h) keyBackUpto_row_tie rfl ⟨rfl,rfl⟩ (by kernel_rfl) rfl
  (fun f fn hf hfn=>by
   obtain rfl:f=4:=Option.some.inj ((show Tryd.prog.funcNamed "bailiff/bailifflaw08.KeyBack" = some 4 by kernel_rfl).symm.trans hf) |>.symm
   obtain rfl:fn=Tryd.f4:=(Option.some.inj (Tryd.func4.symm.trans hfn)).symm
   exact ⟨by kernel_rfl,fun j t ht=>by
    rw [Tryd.params4] at ht
    have hm:t∈([23,23]:List Nat):=by have:=Array.mem_of_getElem? ht;simpa using this
    simp only [List.mem_cons,List.not_mem_nil,or_false] at hm
    rcases hm with rfl|rfl
    ·exact (show Tryd.prog.wantsStandIn 23=false by kernel_rfl)
    ·exact (show Tryd.prog.wantsStandIn 23=false by kernel_rfl)⟩)
  (by kernel_rfl)
end Go.Proofs.YteipfnbeeehagaaDoor.FwZ4
end
