/- WHAT IS PROVED: the given statement 'WitnessHoldsUptoSaid': the law WitnessHolds returns true for every input of bulk at most 1048576, and its arguments read afterwards as before. No condition of our own. -/
import Derived.Test.YtlnenmklgkgaeaaFwG
section
set_option linter.unusedVariables false
set_option linter.unusedSimpArgs false
set_option linter.unusedSectionVars false
namespace Go.Proofs.Ytlnenmklgkgaeaa.FwZ5
open Go.Fw
open Go.Proofs Go.Proofs.Ytlnenmklgkgaeaa Go.RowKit Go.ChangeShapes
set_option maxRecDepth 100000
set_option linter.unusedVariables false
theorem bulkA {H:Type}:Bulk (H:=H) Rows.uptoBulk Rows.uptoBulkAll where
 str:=fun b=>by simp [Rows.uptoBulk]
 sl:=fun e s=>by simp [Rows.uptoBulk]
 agg:=fun p=>by simp [Rows.uptoBulk]
 nil:=by simp [Rows.uptoBulkAll]
 cons:=fun d r=>by simp [Rows.uptoBulkAll]
 one:=fun d=>by
  cases d with
  |lit l=>cases l<;>simp [Rows.uptoBulk]
  |_=>simp [Rows.uptoBulk]
theorem own : ownKnob Try.prog.godebug=none:=by kernel_rfl
theorem args : RdA Try.prog [22] (fun x:(List GSeen)×Unit=>[(.sl (List.map GSeen.enc x.1) false)]) (fun x=>allWf GSeen.wf x.1∧True):=
 rdA_cons (rdV_slice (m:=32) Try.underlying22 (by kernel_rfl) (by decide) (fun _=>rfl) rd_GSeen) (rdA_nil)
theorem contract (H:Type)(enc:TypeId×Value→H)(W:World)(base:Nat)(args':Array Value)(ds gs:List (DataW H))(before:List MemPlace)
  (hval:∀(j:Nat) t v,Try.f5.params[j]?=some t→args'[j]?=some v→Value.okWide Try.prog W .any base t v)
  (hW:DataW.Whole enc Try.prog Try.f5.params.toList Rows.witnessHoldsSpec.vars false W args'.toList ds gs before) (hk:Rows.uptoSmall H (ds++gs)=true) :
  Calls Try.prog 5 args' W fun e W'=>∃v,e=.returned v∧Rows.witnessHoldsSpec.post enc Try.prog Try.f5 false true false false W args' v W':=
 law_contract (fid:=5) (fn:=Try.f5) (s:=Rows.witnessHoldsSpec) (tb:=4) (wf:=fun x:(List GSeen)×Unit=>allWf GSeen.wf x.1∧True)
  (avs:=fun x=>[(.sl (List.map GSeen.enc x.1) false)])
  Try.func5 (by kernel_rfl) (by kernel_rfl) (by rw [Try.params5];intro t ht;simp only [List.mem_cons,List.not_mem_nil,or_false] at ht;rcases ht with rfl<;>exact ⟨by kernel_rfl,of_decide_eq_true (by kernel_rfl)⟩)
  (by kernel_rfl) Try.underlying4 rfl
  (fun H ds h=>by
   rw [Try.params5] at h
   match ds,h with
   |[d1],_=>rfl)
  (by rw [Try.params5];exact args)
  (fun x h=>by
   have e:law25_WitnessHolds x.1=true:=WitnessHolds_true _
   have:=pc_law25_WitnessHolds x.1
   rw [e] at this
   exact this)
  bulkA hval hW (of_decide_eq_true hk) (fun _ _ h=>by cases h)
theorem lifted (os:Os)(started:os.Started)(H:Type)(enc:TypeId×Value→H)(F:Stop.Interp) :
  ReturnsInHanded {} Try.checked os 5 .any ((Rows.OpenSpec.upto Rows.witnessHoldsSpec).pre6 enc Try.prog Try.f5 Rows.witnessHoldsUptoRow.domain false) (((Rows.OpenSpec.upto Rows.witnessHoldsSpec).at F).post enc Try.prog Try.f5 false true false false):=by
 refine returnsInHanded_of_cond (C:=Try.checked) (s:=Rows.OpenSpec.upto Rows.witnessHoldsSpec) (k:=Rows.uptoSmall) rfl own started (by kernel_rfl) Try.func5
  (OpenSpec.witness (enc:=enc) (C:=Try.checked) (s:=Rows.OpenSpec.upto Rows.witnessHoldsSpec) (k:=Rows.uptoSmall) rfl false
   ⟨#[],#[.slice none 0 0],[]⟩ 8 (by kernel_rfl) (by kernel_rfl) (by kernel_rfl)
   (x:=([.nil],[],[])) (by kernel_rfl) rfl (by kernel_rfl)) ?_
 intro W base args' ds gs before hval hW _ hk _
 exact contract H enc W base args' ds gs before hval hW hk
theorem holds : Rows.WitnessHoldsUptoSaid:=
 OpenClaim.holds_of_cond 5 Try.f5 rfl rfl rfl rfl rfl rfl rfl ⟨rfl,rfl,rfl,rfl,rfl⟩ rfl rfl rfl rfl rfl (by kernel_rfl) Try.func5 (by kernel_rfl)
  (of_decide_eq_true (by kernel_rfl)) (by unfold Func.isWrapper;first|(rw [if_pos (by decide +kernel)];kernel_rfl)|(rw [if_neg (by decide +kernel)];exact ⟨rfl,rfl⟩))
  (fun os started H enc _ F=>lifted os started H enc F)
end Go.Proofs.Ytlnenmklgkgaeaa.FwZ5
end
