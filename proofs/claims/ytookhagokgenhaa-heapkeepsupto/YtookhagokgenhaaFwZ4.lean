/- Machinery of this seat's proofs (ZHK): lemmas that the last text uses; no statement of its own. -/
import Derived.Test.YtookhagokgenhaaFwG
set_option linter.unusedVariables false
set_option linter.unusedSimpArgs false
set_option linter.unusedSectionVars false
set_option linter.unnecessarySimpa false
section
namespace Go.Proofs.Ytookhagokgenhaa.FwZ4
open Go.Fw
open Go.Proofs Go.Proofs.Ytookhagokgenhaa Go.RowKit Go.ChangeShapes
set_option maxRecDepth 100000
theorem bulkA {H:Type}:Ul (H:=H) Rows.uptoBulk Rows.uptoBulkAll where
 str:=fun b=>by simp [Rows.uptoBulk]
 sl:=fun e s=>by simp [Rows.uptoBulk]
 agg:=fun p=>by simp [Rows.uptoBulk]
 nil:=by simp [Rows.uptoBulkAll]
 cons:=fun d r=>by simp [Rows.uptoBulkAll]
 one:=fun d=>by
  cases d with
  |lit l=>cases l<;>simp [Rows.uptoBulk]
  |_=>simp [Rows.uptoBulk]
theorem own : ownKnob Try.prog.godebug=none:=by kernel_rfl
theorem args : RdA Try.prog [24,36,3] (fun x:dK×dS×Int×Unit=>[(dK.av x.1),(dS.av x.2.1),(.p (.int .i64 x.2.2.1))]) (fun x=>x.1.wf/\x.2.1.wf/\inR .i64 x.2.2.1/\True):=
 Qb (OT Try.underlying24 ao9) (Qb (OT Try.underlying36 arJ) (Qb (aqy Try.underlying3) (aqz)))
theorem contract (H:Type)(enc:TypeId×Value->H)(W:World)(base:Nat)(args':Array Value)(ds gs:List (DataW H))(before:List MemPlace)
  (hval:∀(j:Nat) t v,Try.f4.params[j]?=some t->args'[j]?=some v->Value.okWide Try.prog W .any base t v)
  (hW:DataW.Whole enc Try.prog Try.f4.params.toList Rows.heapKeepsSpec.vars false W args'.toList ds gs before) (hk:Rows.uptoSmall H (ds++gs)=true) :
  Calls Try.prog 4 args' W fun e W'=>∃v,e=.returned v/\Rows.heapKeepsSpec.post enc Try.prog Try.f4 false true false false W args' v W':=
 abn (fid:=4) (fn:=Try.f4) (s:=Rows.heapKeepsSpec) (tb:=4) (wf:=fun x:dK×dS×Int×Unit=>x.1.wf/\x.2.1.wf/\inR .i64 x.2.2.1/\True)
  (avs:=fun x=>[(dK.av x.1),(dS.av x.2.1),(.p (.int .i64 x.2.2.1))])
  Try.func4 (by kernel_rfl) (by kernel_rfl) (by rw [Try.params4];intro t ht;simp only [List.mem_cons,List.not_mem_nil,or_false] at ht;rcases ht with rfl|rfl|rfl<;>exact ⟨by kernel_rfl,of_decide_eq_true (by kernel_rfl)⟩)
  (by kernel_rfl) Try.underlying4 rfl
  (fun H ds h=>by
   rw [Try.params4] at h
   match ds,h with
   |[d1,d2,d3],_=>rfl)
  (by rw [Try.params4];exact args)
  (fun x h=>by
   have e:av7 x.1 x.2.1 x.2.2.1=true:=ayM
   have:=axN x.1 x.2.1 x.2.2.1
   rw [e] at this
   exact this)
  bulkA hval hW (of_decide_eq_true hk) (fun _ _ h=>by cases h)
theorem lifted (os:Os)(started:os.Started)(H:Type)(enc:TypeId×Value->H)(F:Stop.Interp) :
  ReturnsInHanded {} Try.checked os 4 .any ((Rows.OpenSpec.upto Rows.heapKeepsSpec).pre6 enc Try.prog Try.f4 Rows.heapKeepsUptoRow.domain false) (((Rows.OpenSpec.upto Rows.heapKeepsSpec).at F).post enc Try.prog Try.f4 false true false false):=by
 refine returnsInHanded_of_cond (C:=Try.checked) (s:=Rows.OpenSpec.upto Rows.heapKeepsSpec) (k:=Rows.uptoSmall) rfl own started (by kernel_rfl) Try.func4
  (OpenSpec.witness (enc:=enc) (C:=Try.checked) (s:=Rows.OpenSpec.upto Rows.heapKeepsSpec) (k:=Rows.uptoSmall) rfl false
   ⟨#[],#[.agg #[.slice none 0 0],.agg #[.int .u8 0,.int .u8 0,.float .f64 0,.string ⟨#[]⟩,.int .i64 0,.bool false,.slice none 0 0,.int .u8 0,.float .f64 0,.string ⟨#[]⟩,.int .i64 0,.int .u8 0,.float .f64 0,.string ⟨#[]⟩,.int .i64 0,.string ⟨#[]⟩,.bool false,.bool false],.int .i64 0],[]⟩ 8 (by kernel_rfl) (by kernel_rfl) (by kernel_rfl)
   (x:=([.agg [.nil],.agg [.lit (.int .u8 0),.agg [.lit (.int .u8 0),.lit (.float .f64 0),.lit (.string []),.lit (.int .i64 0)],.lit (.bool false),.nil,.agg [.lit (.int .u8 0),.lit (.float .f64 0),.lit (.string []),.lit (.int .i64 0)],.agg [.lit (.int .u8 0),.lit (.float .f64 0),.lit (.string []),.lit (.int .i64 0)],.lit (.string []),.lit (.bool false),.lit (.bool false)],.lit (.int .i64 0)],[],[])) (by kernel_rfl) rfl (by kernel_rfl)) ?_
 intro W base args' ds gs before hval hW _ hk _
 exact contract H enc W base args' ds gs before hval hW hk
theorem holds : Rows.HeapKeepsUptoSaid:=
 OpenClaim.holds_of_cond 4 Try.f4 rfl rfl rfl rfl rfl rfl rfl ⟨rfl,rfl,rfl,rfl,rfl⟩ rfl rfl rfl rfl rfl (by kernel_rfl) Try.func4 (by kernel_rfl)
  (of_decide_eq_true (by kernel_rfl)) (by unfold Func.isWrapper;first|(rw [if_pos (by decide +kernel)];kernel_rfl)|(rw [if_neg (by decide +kernel)];exact ⟨rfl,rfl⟩))
  (fun os started H enc _ F=>lifted os started H enc F)
end Go.Proofs.Ytookhagokgenhaa.FwZ4
end
