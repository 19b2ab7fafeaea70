/- WHAT IS PROVED: the given statement 'HeapApartUptoSaid': the law HeapApart returns true for every input of bulk at most 1048576, and its arguments read afterwards as before. No condition of our own. -/
import Derived.Test.YtlnenmklgkgaeaaFwH
set_option linter.unusedVariables false
set_option linter.unusedSimpArgs false
set_option linter.unusedSectionVars false
set_option linter.unnecessarySimpa false
section
namespace Go.Proofs.Ytlnenmklgkgaeaa.FwZ6
open Go.Fw
open Go.Proofs Go.Proofs.Ytlnenmklgkgaeaa Go.RowKit Go.ChangeShapes
set_option maxRecDepth 100000
theorem bulkA {H:Type}:Qo (H:=H) Rows.uptoBulk Rows.uptoBulkAll where
 str:=fun b=>by simp [Rows.uptoBulk]
 sl:=fun e s=>by simp [Rows.uptoBulk]
 agg:=fun p=>by simp [Rows.uptoBulk]
 nil:=by simp [Rows.uptoBulkAll]
 cons:=fun d r=>by simp [Rows.uptoBulkAll]
 one:=fun d=>by
  cases d with
  |lit l=>cases l<;>simp [Rows.uptoBulk]
  |_=>simp [Rows.uptoBulk]
theorem own : ownKnob Try.prog.godebug=none:=by kernel_rfl
theorem args : RdA Try.prog [46] (fun x:dH×Unit=>[(dH.av x.1)]) (fun x=>x.1.wf/\True):=
 akr (adx Try.underlying46 alT) (ani)
theorem contract (H:Type)(enc:TypeId×Value->H)(W:World)(base:Nat)(args':Array Value)(ds gs:List (DataW H))(before:List MemPlace)
  (hval:∀(j:Nat) t v,Try.f6.params[j]?=some t->args'[j]?=some v->Value.okWide Try.prog W .any base t v)
  (hW:DataW.Whole enc Try.prog Try.f6.params.toList Rows.heapApartSpec.vars false W args'.toList ds gs before) (hk:Rows.uptoSmall H (ds++gs)=true) :
  Calls Try.prog 6 args' W fun e W'=>∃v,e=.returned v/\Rows.heapApartSpec.post enc Try.prog Try.f6 false true false false W args' v W':=
 YI (fid:=6) (fn:=Try.f6) (s:=Rows.heapApartSpec) (tb:=4) (wf:=fun x:dH×Unit=>x.1.wf/\True)
  (avs:=fun x=>[(dH.av x.1)])
  Try.func6 (by kernel_rfl) (by kernel_rfl) (by rw [Try.params6];intro t ht;simp only [List.mem_cons,List.not_mem_nil,or_false] at ht;rcases ht with rfl<;>exact ⟨by kernel_rfl,of_decide_eq_true (by kernel_rfl)⟩)
  (by kernel_rfl) Try.underlying4 rfl
  (fun H ds h=>by
   rw [Try.params6] at h
   match ds,h with
   |[d1],_=>rfl)
  (by rw [Try.params6];exact args)
  (fun x h=>by
   have e:F9 x.1=true:=rfl
   have:=Ld x.1
   rw [e] at this
   exact this)
  bulkA hval hW (of_decide_eq_true hk) (fun _ _ h=>by cases h)
theorem lifted (os:Os)(started:os.Started)(H:Type)(enc:TypeId×Value->H)(F:Stop.Interp) :
  ReturnsInHanded {} Try.checked os 6 .any ((Rows.OpenSpec.upto Rows.heapApartSpec).pre6 enc Try.prog Try.f6 Rows.heapApartUptoRow.domain false) (((Rows.OpenSpec.upto Rows.heapApartSpec).at F).post enc Try.prog Try.f6 false true false false):=by
 refine returnsInHanded_of_cond (C:=Try.checked) (s:=Rows.OpenSpec.upto Rows.heapApartSpec) (k:=Rows.uptoSmall) rfl own started (by kernel_rfl) Try.func6
  (OpenSpec.witness (enc:=enc) (C:=Try.checked) (s:=Rows.OpenSpec.upto Rows.heapApartSpec) (k:=Rows.uptoSmall) rfl false
   ⟨#[],#[.agg #[.slice none 0 0]],[]⟩ 8 (by kernel_rfl) (by kernel_rfl) (by kernel_rfl)
   (x:=([.agg [.nil]],[],[])) (by kernel_rfl) rfl (by kernel_rfl)) ?_
 intro W base args' ds gs before hval hW _ hk _
 exact contract H enc W base args' ds gs before hval hW hk
theorem holds : Rows.HeapApartUptoSaid:=
 OpenClaim.holds_of_cond 6 Try.f6 rfl rfl rfl rfl rfl rfl rfl ⟨rfl,rfl,rfl,rfl,rfl⟩ rfl rfl rfl rfl rfl (by kernel_rfl) Try.func6 (by kernel_rfl)
  (of_decide_eq_true (by kernel_rfl)) (by unfold Func.isWrapper;first|(rw [if_pos (by decide +kernel)];kernel_rfl)|(rw [if_neg (by decide +kernel)];exact ⟨rfl,rfl⟩))
  (fun os started H enc _ F=>lifted os started H enc F)
end Go.Proofs.Ytlnenmklgkgaeaa.FwZ6
end
