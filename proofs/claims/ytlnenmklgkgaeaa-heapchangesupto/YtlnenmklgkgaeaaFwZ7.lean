/- Machinery of this seat's proofs (ZVc): lemmas that the last text uses; no statement of its own. -/
import Derived.Test.YtlnenmklgkgaeaaFwI
set_option linter.unusedVariables false
set_option linter.unusedSimpArgs false
set_option linter.unusedSectionVars false
set_option linter.unnecessarySimpa false
section
namespace Go.Proofs.Ytlnenmklgkgaeaa.FwZ7
open Go.Fw
open Go.Proofs Go.Proofs.Ytlnenmklgkgaeaa Go.RowKit Go.ChangeShapes
set_option maxRecDepth 100000
theorem bulkA {H:Type}:Qo (H:=H) Rows.uptoBulk Rows.uptoBulkAll where
 str:=fun b=>by simp [Rows.uptoBulk]
 sl:=fun e s=>by simp [Rows.uptoBulk]
 agg:=fun p=>by simp [Rows.uptoBulk]
 nil:=by simp [Rows.uptoBulkAll]
 cons:=fun d r=>by simp [Rows.uptoBulkAll]
 one:=fun d=>by
  cases d with
  |lit l=>cases l<;>simp [Rows.uptoBulk]
  |_=>simp [Rows.uptoBulk]
theorem own : ownKnob Try.prog.godebug=none:=by kernel_rfl
theorem args : RdA Try.prog [46,54,3] (fun x:dH×dJ×Int×Unit=>[(dH.av x.1),(dJ.av x.2.1),(.p (.int .i64 x.2.2.1))]) (fun x=>x.1.wf/\x.2.1.wf/\Zc .i64 x.2.2.1/\True):=
 akr (adx Try.underlying46 alT) (akr (adx Try.underlying54 an9) (akr (axJ Try.underlying3) (ani)))
theorem contract (H:Type)(enc:TypeId×Value->H)(W:World)(base:Nat)(args':Array Value)(ds gs:List (DataW H))(before:List MemPlace)
  (hval:∀(j:Nat) t v,Try.f7.params[j]?=some t->args'[j]?=some v->Value.okWide Try.prog W .any base t v)
  (hW:DataW.Whole enc Try.prog Try.f7.params.toList Rows.heapChangesSpec.vars false W args'.toList ds gs before) (hk:Rows.uptoSmall H (ds++gs)=true) :
  Calls Try.prog 7 args' W fun e W'=>∃v,e=.returned v/\Rows.heapChangesSpec.post enc Try.prog Try.f7 false true false false W args' v W':=
 YI (fid:=7) (fn:=Try.f7) (s:=Rows.heapChangesSpec) (tb:=4) (wf:=fun x:dH×dJ×Int×Unit=>x.1.wf/\x.2.1.wf/\Zc .i64 x.2.2.1/\True)
  (avs:=fun x=>[(dH.av x.1),(dJ.av x.2.1),(.p (.int .i64 x.2.2.1))])
  Try.func7 (by kernel_rfl) (by kernel_rfl) (by rw [Try.params7];intro t ht;simp only [List.mem_cons,List.not_mem_nil,or_false] at ht;rcases ht with rfl|rfl|rfl<;>exact ⟨by kernel_rfl,of_decide_eq_true (by kernel_rfl)⟩)
  (by kernel_rfl) Try.underlying4 rfl
  (fun H ds h=>by
   rw [Try.params7] at h;match ds,h with
   |[d1,d2,d3],_=>rfl)
  (by rw [Try.params7];exact args)
  (fun x h=>ar9 x.1 x.2.1 x.2.2.1 h.1 h.2.1)
  bulkA hval hW (of_decide_eq_true hk) (fun _ _ h=>by cases h)
theorem lifted (os:Os)(started:os.Started)(H:Type)(enc:TypeId×Value->H)(F:Stop.Interp) :
  ReturnsInHanded {} Try.checked os 7 .any ((Rows.OpenSpec.upto Rows.heapChangesSpec).pre6 enc Try.prog Try.f7 Rows.heapChangesUptoRow.domain false) (((Rows.OpenSpec.upto Rows.heapChangesSpec).at F).post enc Try.prog Try.f7 false true false false):=by
 refine returnsInHanded_of_cond (C:=Try.checked) (s:=Rows.OpenSpec.upto Rows.heapChangesSpec) (k:=Rows.uptoSmall) rfl own started (by kernel_rfl) Try.func7
  (OpenSpec.witness (enc:=enc) (C:=Try.checked) (s:=Rows.OpenSpec.upto Rows.heapChangesSpec) (k:=Rows.uptoSmall) rfl false
   ⟨#[],#[.agg #[.slice none 0 0],.agg #[.int .u8 0,.int .u8 0,.float .f64 0,.string ⟨#[]⟩,.int .i64 0,.bool false,.slice none 0 0,.int .u8 0,.float .f64 0,.string ⟨#[]⟩,.int .i64 0,.int .u8 0,.float .f64 0,.string ⟨#[]⟩,.int .i64 0,.string ⟨#[]⟩,.bool false,.bool false],.int .i64 0],[]⟩ 8 (by kernel_rfl) (by kernel_rfl) (by kernel_rfl)
   (x:=([.agg [.nil],.agg [.lit (.int .u8 0),.agg [.lit (.int .u8 0),.lit (.float .f64 0),.lit (.string []),.lit (.int .i64 0)],.lit (.bool false),.nil,.agg [.lit (.int .u8 0),.lit (.float .f64 0),.lit (.string []),.lit (.int .i64 0)],.agg [.lit (.int .u8 0),.lit (.float .f64 0),.lit (.string []),.lit (.int .i64 0)],.lit (.string []),.lit (.bool false),.lit (.bool false)],.lit (.int .i64 0)],[],[])) (by kernel_rfl) rfl (by kernel_rfl)) ?_
 intro W base args' ds gs before hval hW _ hk _;exact contract H enc W base args' ds gs before hval hW hk
theorem holds : Rows.HeapChangesUptoSaid:=
 OpenClaim.holds_of_cond 7 Try.f7 rfl rfl rfl rfl rfl rfl rfl ⟨rfl,rfl,rfl,rfl,rfl⟩ rfl rfl rfl rfl rfl (by kernel_rfl) Try.func7 (by kernel_rfl)
  (of_decide_eq_true (by kernel_rfl)) (by unfold Func.isWrapper;first|(rw [if_pos (by decide +kernel)];kernel_rfl)|(rw [if_neg (by decide +kernel)];exact ⟨rfl,rfl⟩))
  (fun os started H enc _ F=>lifted os started H enc F)
end Go.Proofs.Ytlnenmklgkgaeaa.FwZ7
end
