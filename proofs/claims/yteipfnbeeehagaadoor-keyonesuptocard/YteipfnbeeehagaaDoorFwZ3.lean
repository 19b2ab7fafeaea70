/- WHAT IS PROVED: the given statement 'KeyOnesUptoCardSaid': the law KeyOnes returns true for every input of bulk at most 1048576, and its arguments read afterwards as before; the listed variables tied to the program's text. No condition of our own. -/
import Derived.Test.YteipfnbeeehagaaDoorCards
import Derived.Test.YteipfnbeeehagaaDoorTie
import Derived.Lib.LaidIn
import Derived.Deep.DeepHandedRow
import Derived.SevenTiedAt
import Derived.Test.YteipfnbeeehagaaDoorFwF
section
set_option linter.unusedVariables false
set_option linter.unusedSimpArgs false
set_option linter.unusedSectionVars false
namespace Go.Proofs.YteipfnbeeehagaaDoor.FwZ3
open Go.Proofs Go.Proofs.YteipfnbeeehagaaDoor Go.RowKit Go.ChangeShapes
set_option maxRecDepth 100000
set_option linter.unusedVariables false
theorem a2 : Tryd.pinned.checked.prog.funcNamed Rows.keyOnesUptoRow.func=some 3:=by kernel_rfl
theorem a3 : joinedFacts Tryd.pinned.checked.prog 3 Tryd.f3 (Rows.OpenSpec.upto Rows.keyOnesSpec).bare Rows.keyOnesUptoRow=true:=by kernel_rfl
theorem a4 : Tryd.f3.isInstance Tryd.pinned.checked.prog Rows.keyOnesUptoRow.origin Rows.keyOnesUptoRow.targs:=of_decide_eq_true (by kernel_rfl)
theorem a5 : Tryd.f3.isWrapper Tryd.pinned.checked.prog Rows.keyOnesUptoRow.wrapper Rows.keyOnesUptoRow.mainSum:=by unfold Func.isWrapper;first|(rw [if_pos (by decide +kernel)];kernel_rfl)|(rw [if_neg (by decide +kernel)];exact ⟨rfl,rfl⟩)
theorem pre_ok (H:Type)(enc:TypeId×Value→H)(F:Stop.Interp)(os:Os)(h:ReturnsInHanded {} Tryd.checked os 3 .any ((Rows.OpenSpec.upto Rows.keyOnesSpec).preRow enc Tryd.prog Tryd.f3 Rows.keyOnesUptoRow.domain false Rows.keyOnesUptoRow.laid) (((Rows.OpenSpec.upto Rows.keyOnesSpec).at F).post enc Tryd.prog Tryd.f3 false true false false)) :
  ReturnsInHanded Rows.keyOnesUptoRow.assume Tryd.pinned.checked os 3 .any (Rows.keyOnesUptoRow.pre enc Tryd.pinned.checked.prog Tryd.f3 (Rows.OpenSpec.upto Rows.keyOnesSpec)) (((Rows.OpenSpec.upto Rows.keyOnesSpec).at F).post enc Tryd.pinned.checked.prog Tryd.f3 Rows.keyOnesUptoRow.apart Rows.keyOnesUptoRow.fresh Rows.keyOnesUptoRow.handsOn Rows.keyOnesUptoRow.again):=by
 rw [OpenClaim.pre_eq_preRow];exact h
theorem row_holds : Rows.KeyOnesUptoSaid:=
 OpenClaim.holds_of_cond 3 Tryd.f3 rfl rfl rfl rfl rfl rfl rfl ⟨rfl,rfl,rfl,rfl,rfl⟩ rfl rfl rfl rfl rfl a2 Tryd.func3 a3 a4 a5
  (fun os started H enc _ F=>pre_ok H enc F os (lifted os started H enc F))
theorem holds : Rows.KeyOnesUptoCardSaid:=
 Claim7.holds_tied_plain_at .later [] [.data,.data,.data] true (true, "9fbbc67bfcf1cba16291bd501d910d10ed9267f226c56fbffc160176c4981216") false
  row_holds (fun _ h=>by cases h) (by kernel_rfl) (fun _ h=>by cases h) keyOnesUpto_row_tie rfl ⟨rfl,rfl⟩ (by kernel_rfl) rfl
  (fun f fn hf hfn=>by
   obtain rfl:f=3:=Option.some.inj ((show Tryd.prog.funcNamed "bailiff/bailifflaw08.KeyOnes" = some 3 by kernel_rfl).symm.trans hf) |>.symm
   obtain rfl:fn=Tryd.f3:=(Option.some.inj (Tryd.func3.symm.trans hfn)).symm
   exact ⟨by kernel_rfl,fun j t ht=>by
    rw [Tryd.params3] at ht
    have hm:t∈([23,3,26]:List Nat):=by have:=Array.mem_of_getElem? ht;simpa using this
    simp only [List.mem_cons,List.not_mem_nil,or_false] at hm
    rcases hm with rfl|rfl|rfl
    ·exact (show Tryd.prog.wantsStandIn 23=false by kernel_rfl)
    ·exact (show Tryd.prog.wantsStandIn 3=false by kernel_rfl)
    ·exact (show Tryd.prog.wantsStandIn 26=false by kernel_rfl)⟩)
  (by kernel_rfl)
end Go.Proofs.YteipfnbeeehagaaDoor.FwZ3
end
