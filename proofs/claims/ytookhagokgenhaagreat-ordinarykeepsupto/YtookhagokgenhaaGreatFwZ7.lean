/- WHAT IS PROVED: the given statement 'OrdinaryKeepsUptoSaid': the law OrdinaryKeeps returns true for every input of bulk at most 1048576, and its arguments read afterwards as before. No condition of our own. -/
import Derived.Test.YtookhagokgenhaaGreatFwH
set_option linter.unusedVariables false
set_option linter.unusedSimpArgs false
set_option linter.unusedSectionVars false
set_option linter.unnecessarySimpa false
section
namespace Go.Proofs.YtookhagokgenhaaGreat.FwZ7
open Go.Fw
open Go.Proofs Go.Proofs.YtookhagokgenhaaGreat Go.RowKit Go.ChangeShapes
set_option maxRecDepth 100000
theorem bulkA {H:Type}:QU (H:=H) Rows.uptoBulk Rows.uptoBulkAll where
 str:=fun b=>by simp [Rows.uptoBulk]
 sl:=fun e s=>by simp [Rows.uptoBulk]
 agg:=fun p=>by simp [Rows.uptoBulk]
 nil:=by simp [Rows.uptoBulkAll]
 cons:=fun d r=>by simp [Rows.uptoBulkAll]
 one:=fun d=>by
  cases d with
  |lit l=>cases l<;>simp [Rows.uptoBulk]
  |_=>simp [Rows.uptoBulk]
theorem own : ownKnob Tryz.prog.godebug=none:=by kernel_rfl
theorem args : RdA Tryz.prog [24,3,29,65] (fun x:dK×Int×dI×(List gK)×Unit=>[(dK.av x.1),(.p (.int .i64 x.2.1)),(dI.av x.2.2.1),(.sl (List.map gK.enc x.2.2.2.1) false)]) (fun x=>x.1.wf/\YP .i64 x.2.1/\x.2.2.1.wf/\ayq gK.wf x.2.2.2.1/\True):=
 NY (UF Tryz.underlying24 alk) (NY (amU Tryz.underlying3) (NY (UF Tryz.underlying29 Zj) (NY (ahk (m:=29) Tryz.underlying65 (by kernel_rfl) (by decide) (fun _=>rfl) anL) (amV))))
theorem contract (H:Type)(enc:TypeId×Value->H)(W:World)(base:Nat)(args':Array Value)(ds gs:List (DataW H))(before:List MemPlace)
  (hval:∀(j:Nat) t v,Tryz.f7.params[j]?=some t->args'[j]?=some v->Value.okWide Tryz.prog W .any base t v)
  (hW:DataW.Whole enc Tryz.prog Tryz.f7.params.toList Rows.ordinaryKeepsSpec.vars false W args'.toList ds gs before) (hk:Rows.uptoSmall H (ds++gs)=true) :
  Calls Tryz.prog 7 args' W fun e W'=>∃v,e=.returned v/\Rows.ordinaryKeepsSpec.post enc Tryz.prog Tryz.f7 false true false false W args' v W':=
 YQ (fid:=7) (fn:=Tryz.f7) (s:=Rows.ordinaryKeepsSpec) (tb:=4) (wf:=fun x:dK×Int×dI×(List gK)×Unit=>x.1.wf/\YP .i64 x.2.1/\x.2.2.1.wf/\ayq gK.wf x.2.2.2.1/\True)
  (avs:=fun x=>[(dK.av x.1),(.p (.int .i64 x.2.1)),(dI.av x.2.2.1),(.sl (List.map gK.enc x.2.2.2.1) false)])
  Tryz.func7 (by kernel_rfl) (by kernel_rfl) (by rw [Tryz.params7];intro t ht;simp only [List.mem_cons,List.not_mem_nil,or_false] at ht;rcases ht with rfl|rfl|rfl|rfl<;>exact ⟨by kernel_rfl,of_decide_eq_true (by kernel_rfl)⟩)
  (by kernel_rfl) Tryz.underlying4 rfl
  (fun H ds h=>by
   rw [Tryz.params7] at h
   match ds,h with
   |[d1,d2,d3,d4],_=>rfl)
  (by rw [Tryz.params7];exact args)
  (fun x h=>by
   have e:nP x.1 x.2.1 x.2.2.1 x.2.2.2.1=true:=aem (hwf h.1) (fun a ha=>⟨vok (h.2.2.2.1.2 a ha).Value,dok (h.2.2.2.1.2 a ha).dS⟩) (Nat.le_trans h.2.2.2.1.1 (by decide))
   have:=GR x.1 x.2.1 x.2.2.1 x.2.2.2.1
   rw [e] at this
   exact this)
  bulkA hval hW (of_decide_eq_true hk) (fun _ _ h=>by cases h)
theorem lifted (os:Os)(started:os.Started)(H:Type)(enc:TypeId×Value->H)(F:Stop.Interp) :
  ReturnsInHanded {} Tryz.checked os 7 .any ((Rows.OpenSpec.upto Rows.ordinaryKeepsSpec).pre6 enc Tryz.prog Tryz.f7 Rows.ordinaryKeepsUptoRow.domain false) (((Rows.OpenSpec.upto Rows.ordinaryKeepsSpec).at F).post enc Tryz.prog Tryz.f7 false true false false):=by
 refine returnsInHanded_of_cond (C:=Tryz.checked) (s:=Rows.OpenSpec.upto Rows.ordinaryKeepsSpec) (k:=Rows.uptoSmall) rfl own started (by kernel_rfl) Tryz.func7
  (OpenSpec.witness (enc:=enc) (C:=Tryz.checked) (s:=Rows.OpenSpec.upto Rows.ordinaryKeepsSpec) (k:=Rows.uptoSmall) rfl false
   ⟨#[],#[.agg #[.slice none 0 0],.int .i64 0,.agg #[.string ⟨#[]⟩,.int .i64 0],.slice none 0 0],[]⟩ 8 (by kernel_rfl) (by kernel_rfl) (by kernel_rfl)
   (x:=([.agg [.nil],.lit (.int .i64 0),.agg [.lit (.string []),.lit (.int .i64 0)],.nil],[],[])) (by kernel_rfl) rfl (by kernel_rfl)) ?_
 intro W base args' ds gs before hval hW _ hk _
 exact contract H enc W base args' ds gs before hval hW hk
theorem holds : Rows.OrdinaryKeepsUptoSaid:=
 OpenClaim.holds_of_cond 7 Tryz.f7 rfl rfl rfl rfl rfl rfl rfl ⟨rfl,rfl,rfl,rfl,rfl⟩ rfl rfl rfl rfl rfl (by kernel_rfl) Tryz.func7 (by kernel_rfl)
  (of_decide_eq_true (by kernel_rfl)) (by unfold Func.isWrapper;first|(rw [if_pos (by decide +kernel)];kernel_rfl)|(rw [if_neg (by decide +kernel)];exact ⟨rfl,rfl⟩))
  (fun os started H enc _ F=>lifted os started H enc F)
end Go.Proofs.YtookhagokgenhaaGreat.FwZ7
end
