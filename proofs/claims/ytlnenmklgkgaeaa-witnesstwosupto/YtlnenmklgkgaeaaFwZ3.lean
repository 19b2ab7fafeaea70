/- WHAT IS PROVED: the given statement 'WitnessTwosUptoSaid': the law WitnessTwos returns true for every input of bulk at most 1048576, and its arguments read afterwards as before. No condition of our own. -/
import Derived.Test.YtlnenmklgkgaeaaFwG
section
set_option linter.unusedVariables false
set_option linter.unusedSimpArgs false
set_option linter.unusedSectionVars false
namespace Go.Proofs.Ytlnenmklgkgaeaa.FwZ3
open Go.Fw
open Go.Proofs Go.Proofs.Ytlnenmklgkgaeaa Go.RowKit Go.ChangeShapes
set_option maxRecDepth 100000
set_option linter.unusedVariables false
theorem bulkA {H:Type}:Bulk (H:=H) Rows.uptoBulk Rows.uptoBulkAll where
 str:=fun b=>by simp [Rows.uptoBulk]
 sl:=fun e s=>by simp [Rows.uptoBulk]
 agg:=fun p=>by simp [Rows.uptoBulk]
 nil:=by simp [Rows.uptoBulkAll]
 cons:=fun d r=>by simp [Rows.uptoBulkAll]
 one:=fun d=>by
  cases d with
  |lit l=>cases l<;>simp [Rows.uptoBulk]
  |_=>simp [Rows.uptoBulk]
theorem own : ownKnob Try.prog.godebug=none:=by kernel_rfl
theorem args : RdA Try.prog [22,22,3] (fun x:(List GSeen)×(List GSeen)×Int×Unit=>[(.sl (List.map GSeen.enc x.1) false),(.sl (List.map GSeen.enc x.2.1) false),(.p (.int .i64 x.2.2.1))]) (fun x=>allWf GSeen.wf x.1∧allWf GSeen.wf x.2.1∧inR .i64 x.2.2.1∧True):=
 rdA_cons (rdV_slice (m:=32) Try.underlying22 (by kernel_rfl) (by decide) (fun _=>rfl) rd_GSeen) (rdA_cons (rdV_slice (m:=32) Try.underlying22 (by kernel_rfl) (by decide) (fun _=>rfl) rd_GSeen) (rdA_cons (rdV_int Try.underlying3) (rdA_nil)))
theorem contract (H:Type)(enc:TypeId×Value→H)(W:World)(base:Nat)(args':Array Value)(ds gs:List (DataW H))(before:List MemPlace)
  (hval:∀(j:Nat) t v,Try.f3.params[j]?=some t→args'[j]?=some v→Value.okWide Try.prog W .any base t v)
  (hW:DataW.Whole enc Try.prog Try.f3.params.toList Rows.witnessTwosSpec.vars false W args'.toList ds gs before) (hk:Rows.uptoSmall H (ds++gs)=true) :
  Calls Try.prog 3 args' W fun e W'=>∃v,e=.returned v∧Rows.witnessTwosSpec.post enc Try.prog Try.f3 false true false false W args' v W':=
 law_contract (fid:=3) (fn:=Try.f3) (s:=Rows.witnessTwosSpec) (tb:=4) (wf:=fun x:(List GSeen)×(List GSeen)×Int×Unit=>allWf GSeen.wf x.1∧allWf GSeen.wf x.2.1∧inR .i64 x.2.2.1∧True)
  (avs:=fun x=>[(.sl (List.map GSeen.enc x.1) false),(.sl (List.map GSeen.enc x.2.1) false),(.p (.int .i64 x.2.2.1))])
  Try.func3 (by kernel_rfl) (by kernel_rfl) (by rw [Try.params3];intro t ht;simp only [List.mem_cons,List.not_mem_nil,or_false] at ht;rcases ht with rfl|rfl|rfl<;>exact ⟨by kernel_rfl,of_decide_eq_true (by kernel_rfl)⟩)
  (by kernel_rfl) Try.underlying4 rfl
  (fun H ds h=>by
   rw [Try.params3] at h
   match ds,h with
   |[d1,d2,d3],_=>rfl)
  (by rw [Try.params3];exact args)
  (fun x h=>by
   have e:law25_WitnessTwos x.1 x.2.1 x.2.2.1=true:=rfl
   have:=pc_law25_WitnessTwos x.1 x.2.1 x.2.2.1
   rw [e] at this
   exact this)
  bulkA hval hW (of_decide_eq_true hk) (fun _ _ h=>by cases h)
theorem lifted (os:Os)(started:os.Started)(H:Type)(enc:TypeId×Value→H)(F:Stop.Interp) :
  ReturnsInHanded {} Try.checked os 3 .any ((Rows.OpenSpec.upto Rows.witnessTwosSpec).pre6 enc Try.prog Try.f3 Rows.witnessTwosUptoRow.domain false) (((Rows.OpenSpec.upto Rows.witnessTwosSpec).at F).post enc Try.prog Try.f3 false true false false):=by
 refine returnsInHanded_of_cond (C:=Try.checked) (s:=Rows.OpenSpec.upto Rows.witnessTwosSpec) (k:=Rows.uptoSmall) rfl own started (by kernel_rfl) Try.func3
  (OpenSpec.witness (enc:=enc) (C:=Try.checked) (s:=Rows.OpenSpec.upto Rows.witnessTwosSpec) (k:=Rows.uptoSmall) rfl false
   ⟨#[],#[.slice none 0 0,.slice none 0 0,.int .i64 0],[]⟩ 8 (by kernel_rfl) (by kernel_rfl) (by kernel_rfl)
   (x:=([.nil,.nil,.lit (.int .i64 0)],[],[])) (by kernel_rfl) rfl (by kernel_rfl)) ?_
 intro W base args' ds gs before hval hW _ hk _
 exact contract H enc W base args' ds gs before hval hW hk
theorem holds : Rows.WitnessTwosUptoSaid:=
 OpenClaim.holds_of_cond 3 Try.f3 rfl rfl rfl rfl rfl rfl rfl ⟨rfl,rfl,rfl,rfl,rfl⟩ rfl rfl rfl rfl rfl (by kernel_rfl) Try.func3 (by kernel_rfl)
  (of_decide_eq_true (by kernel_rfl)) (by unfold Func.isWrapper;first|(rw [if_pos (by decide +kernel)];kernel_rfl)|(rw [if_neg (by decide +kernel)];exact ⟨rfl,rfl⟩))
  (fun os started H enc _ F=>lifted os started H enc F)
end Go.Proofs.Ytlnenmklgkgaeaa.FwZ3
end
