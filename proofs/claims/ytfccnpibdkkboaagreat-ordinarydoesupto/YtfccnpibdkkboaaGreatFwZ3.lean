/- Machinery of this seat's proofs (ZDD): lemmas that the last text uses; no statement of its own. -/
import Derived.Test.YtfccnpibdkkboaaGreatFwI
set_option linter.unusedVariables false
set_option linter.unusedSimpArgs false
set_option linter.unusedSectionVars false
set_option linter.unnecessarySimpa false
section
namespace Go.Proofs.YtfccnpibdkkboaaGreat.FwZ3
open Go.Fw
open Go.Proofs Go.Proofs.YtfccnpibdkkboaaGreat Go.RowKit Go.ChangeShapes
set_option maxRecDepth 100000
theorem bulkA {H:Type}:O4 (H:=H) Rows.uptoBulk Rows.uptoBulkAll where
 str:=fun b=>by simp [Rows.uptoBulk]
 sl:=fun e s=>by simp [Rows.uptoBulk]
 agg:=fun p=>by simp [Rows.uptoBulk]
 nil:=by simp [Rows.uptoBulkAll]
 cons:=fun d r=>by simp [Rows.uptoBulkAll]
 one:=fun d=>by
  cases d with
  |lit l=>cases l<;>simp [Rows.uptoBulk]
  |_=>simp [Rows.uptoBulk]
theorem own : ownKnob Tryz.prog.godebug=none:=by kernel_rfl
theorem args : RdA Tryz.prog [24,34] (fun x:dK×iK×Unit=>[(dK.av x.1),(iK.av x.2.1)]) (fun x=>x.1.wf/\x.2.1.wf/\True):=
 U9 (NC Tryz.underlying24 ad6) (U9 (NC Tryz.underlying34 afZ) (aeK))
theorem contract (H:Type)(enc:TypeId×Value->H)(W:World)(base:Nat)(args':Array Value)(ds gs:List (DataW H))(before:List MemPlace)
  (hval:∀(j:Nat) t v,Tryz.f3.params[j]?=some t->args'[j]?=some v->Value.okWide Tryz.prog W .any base t v)
  (hW:DataW.Whole enc Tryz.prog Tryz.f3.params.toList Rows.ordinaryDoesSpec.vars false W args'.toList ds gs before) (hk:Rows.uptoSmall H (ds++gs)=true) :
  Calls Tryz.prog 3 args' W fun e W'=>∃v,e=.returned v/\Rows.ordinaryDoesSpec.post enc Tryz.prog Tryz.f3 false true false false W args' v W':=
 RN (fid:=3) (fn:=Tryz.f3) (s:=Rows.ordinaryDoesSpec) (tb:=4) (wf:=fun x:dK×iK×Unit=>x.1.wf/\x.2.1.wf/\True)
  (avs:=fun x=>[(dK.av x.1),(iK.av x.2.1)])
  Tryz.func3 (by kernel_rfl) (by kernel_rfl) (by rw [Tryz.params3];intro t ht;simp only [List.mem_cons,List.not_mem_nil,or_false] at ht;rcases ht with rfl|rfl<;>exact ⟨by kernel_rfl,of_decide_eq_true (by kernel_rfl)⟩)
  (by kernel_rfl) Tryz.underlying4 rfl
  (fun H ds h=>by
   rw [Tryz.params3] at h
   match ds,h with
   |[d1,d2],_=>rfl)
  (by rw [Tryz.params3];exact args)
  (fun x h=>Ee x.1 x.2.1 h.1 h.2.1)
  bulkA hval hW (of_decide_eq_true hk) (fun _ _ h=>by cases h)
theorem lifted (os:Os)(started:os.Started)(H:Type)(enc:TypeId×Value->H)(F:Stop.Interp) :
  ReturnsInHanded {} Tryz.checked os 3 .any ((Rows.OpenSpec.upto Rows.ordinaryDoesSpec).pre6 enc Tryz.prog Tryz.f3 Rows.ordinaryDoesUptoRow.domain false) (((Rows.OpenSpec.upto Rows.ordinaryDoesSpec).at F).post enc Tryz.prog Tryz.f3 false true false false):=by
 refine returnsInHanded_of_cond (C:=Tryz.checked) (s:=Rows.OpenSpec.upto Rows.ordinaryDoesSpec) (k:=Rows.uptoSmall) rfl own started (by kernel_rfl) Tryz.func3
  (OpenSpec.witness (enc:=enc) (C:=Tryz.checked) (s:=Rows.OpenSpec.upto Rows.ordinaryDoesSpec) (k:=Rows.uptoSmall) rfl false
   ⟨#[],#[.agg #[.slice none 0 0],.agg #[.int .u8 0,.int .i64 0,.string ⟨#[]⟩,.int .i64 0,.int .u8 0,.int .u8 0,.float .f64 0,.string ⟨#[]⟩,.int .i64 0,.int .u8 0,.float .f64 0,.string ⟨#[]⟩,.int .i64 0,.int .u8 0,.float .f64 0,.string ⟨#[]⟩,.int .i64 0,.bool false,.bool false,.bool false,.int .u8 0,.float .f64 0,.string ⟨#[]⟩,.int .i64 0,.int .u8 0,.float .f64 0,.string ⟨#[]⟩,.int .i64 0,.slice none 0 0]],[]⟩ 8 (by kernel_rfl) (by kernel_rfl) (by kernel_rfl)
   (x:=([.agg [.nil],.agg [.lit (.int .u8 0),.lit (.int .i64 0),.agg [.lit (.string []),.lit (.int .i64 0)],.agg [.lit (.int .u8 0),.agg [.lit (.int .u8 0),.lit (.float .f64 0),.lit (.string []),.lit (.int .i64 0)],.agg [.lit (.int .u8 0),.lit (.float .f64 0),.lit (.string []),.lit (.int .i64 0)],.agg [.lit (.int .u8 0),.lit (.float .f64 0),.lit (.string []),.lit (.int .i64 0)],.lit (.bool false),.lit (.bool false),.lit (.bool false)],.agg [.lit (.int .u8 0),.lit (.float .f64 0),.lit (.string []),.lit (.int .i64 0)],.agg [.lit (.int .u8 0),.lit (.float .f64 0),.lit (.string []),.lit (.int .i64 0)],.nil]],[],[])) (by kernel_rfl) rfl (by kernel_rfl)) ?_
 intro W base args' ds gs before hval hW _ hk _
 exact contract H enc W base args' ds gs before hval hW hk
theorem holds : Rows.OrdinaryDoesUptoSaid:=
 OpenClaim.holds_of_cond 3 Tryz.f3 rfl rfl rfl rfl rfl rfl rfl ⟨rfl,rfl,rfl,rfl,rfl⟩ rfl rfl rfl rfl rfl (by kernel_rfl) Tryz.func3 (by kernel_rfl)
  (of_decide_eq_true (by kernel_rfl)) (by unfold Func.isWrapper;first|(rw [if_pos (by decide +kernel)];kernel_rfl)|(rw [if_neg (by decide +kernel)];exact ⟨rfl,rfl⟩))
  (fun os started H enc _ F=>lifted os started H enc F)
end Go.Proofs.YtfccnpibdkkboaaGreat.FwZ3
end
