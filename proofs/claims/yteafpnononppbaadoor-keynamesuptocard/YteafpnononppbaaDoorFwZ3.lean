/- WHAT IS PROVED: the given statement 'KeyNamesUptoCardSaid': the law KeyNames returns true for every input of bulk at most 1048576, and its arguments read afterwards as before; the listed variables tied to the program's text. No condition of our own. -/
import Derived.Test.YteafpnononppbaaDoorCards
import Derived.Test.YteafpnononppbaaDoorTie
import Derived.Lib.LaidIn
import Derived.Deep.DeepHandedRow
import Derived.SevenTiedAt
import Derived.Test.YteafpnononppbaaDoorFwF
section
set_option linter.unusedVariables false
set_option linter.unusedSimpArgs false
set_option linter.unusedSectionVars false
namespace Go.Proofs.YteafpnononppbaaDoor.FwZ3
open Go.Proofs Go.Proofs.YteafpnononppbaaDoor Go.RowKit Go.ChangeShapes
set_option maxRecDepth 100000
set_option linter.unusedVariables false
theorem a2 : Tryd.pinned.checked.prog.funcNamed Rows.keyNamesUptoRow.func=some 3:=by kernel_rfl
theorem a3 : joinedFacts Tryd.pinned.checked.prog 3 Tryd.f3 (Rows.OpenSpec.upto Rows.keyNamesSpec).bare Rows.keyNamesUptoRow=true:=by kernel_rfl
theorem a4 : Tryd.f3.isInstance Tryd.pinned.checked.prog Rows.keyNamesUptoRow.origin Rows.keyNamesUptoRow.targs:=of_decide_eq_true (by kernel_rfl)
theorem a5 : Tryd.f3.isWrapper Tryd.pinned.checked.prog Rows.keyNamesUptoRow.wrapper Rows.keyNamesUptoRow.mainSum:=by unfold Func.isWrapper;first|(rw [if_pos (by decide +kernel)];kernel_rfl)|(rw [if_neg (by decide +kernel)];exact ⟨rfl,rfl⟩)
theorem pre_ok (H:Type)(enc:TypeId×Value→H)(F:Stop.Interp)(os:Os)(h:ReturnsInHanded {} Tryd.checked os 3 .any ((Rows.OpenSpec.upto Rows.keyNamesSpec).preRow enc Tryd.prog Tryd.f3 Rows.keyNamesUptoRow.domain false Rows.keyNamesUptoRow.laid) (((Rows.OpenSpec.upto Rows.keyNamesSpec).at F).post enc Tryd.prog Tryd.f3 false true false false)) :
  ReturnsInHanded Rows.keyNamesUptoRow.assume Tryd.pinned.checked os 3 .any (Rows.keyNamesUptoRow.pre enc Tryd.pinned.checked.prog Tryd.f3 (Rows.OpenSpec.upto Rows.keyNamesSpec)) (((Rows.OpenSpec.upto Rows.keyNamesSpec).at F).post enc Tryd.pinned.checked.prog Tryd.f3 Rows.keyNamesUptoRow.apart Rows.keyNamesUptoRow.fresh Rows.keyNamesUptoRow.handsOn Rows.keyNamesUptoRow.again):=by
 rw [OpenClaim.pre_eq_preRow];exact h
theorem row_holds : Rows.KeyNamesUptoSaid:=
 OpenClaim.holds_of_cond 3 Tryd.f3 rfl rfl rfl rfl rfl rfl rfl ⟨rfl,rfl,rfl,rfl,rfl⟩ rfl rfl rfl rfl rfl a2 Tryd.func3 a3 a4 a5
  (fun os started H enc _ F=>pre_ok H enc F os (lifted os started H enc F))
theorem holds : Rows.KeyNamesUptoCardSaid:=
 Claim7.holds_tied_plain_at .later [] [.data,.data,.data] true (true, "6e0198599c6ba8a7e562854e6f0ea1e9b43df571dda0bee447b55ad6b732e813") false
  row_holds (fun _ h=>by cases h) (by kernel_rfl) (fun _ h=>by cases h) keyNamesUpto_row_tie rfl ⟨rfl,rfl⟩ (by kernel_rfl) rfl
  (fun f fn hf hfn=>by
   obtain rfl:f=3:=Option.some.inj ((show Tryd.prog.funcNamed "bailiff/bailifflaw08.KeyNames" = some 3 by kernel_rfl).symm.trans hf) |>.symm
   obtain rfl:fn=Tryd.f3:=(Option.some.inj (Tryd.func3.symm.trans hfn)).symm
   exact ⟨by kernel_rfl,fun j t ht=>by
    rw [show Tryd.f3.params=#[] by kernel_rfl] at ht
    simp at ht⟩)
  (by kernel_rfl)
end Go.Proofs.YteafpnononppbaaDoor.FwZ3
end
