/- WHAT IS PROVED: the given statement 'TableFindsUptoSaid': the law TableFinds returns true for every input of bulk at most 1048576, and its arguments read afterwards as before. No condition of our own. -/
import Derived.Test.YtmckdfempgoekaaFwG
section
set_option linter.unusedVariables false
set_option linter.unusedSimpArgs false
set_option linter.unusedSectionVars false
namespace Go.Proofs.Ytmckdfempgoekaa.FwZ6
open Go.Fw
open Go.Proofs Go.Proofs.Ytmckdfempgoekaa Go.RowKit Go.ChangeShapes
set_option maxRecDepth 100000
set_option linter.unusedVariables false
theorem bulkA {H:Type}:Bulk (H:=H) Rows.uptoBulk Rows.uptoBulkAll where
 str:=fun b=>by simp [Rows.uptoBulk]
 sl:=fun e s=>by simp [Rows.uptoBulk]
 agg:=fun p=>by simp [Rows.uptoBulk]
 nil:=by simp [Rows.uptoBulkAll]
 cons:=fun d r=>by simp [Rows.uptoBulkAll]
 one:=fun d=>by
  cases d with
  |lit l=>cases l<;>simp [Rows.uptoBulk]
  |_=>simp [Rows.uptoBulk]
theorem own : ownKnob Try.prog.godebug=none:=by kernel_rfl
theorem args : RdA Try.prog [22,24,29,24] (fun x:(List GProp)×GKey×GDesc×GKey×Unit=>[(.sl (List.map GProp.enc x.1) false),(GKey.av x.2.1),(GDesc.av x.2.2.1),(GKey.av x.2.2.2.1)]) (fun x=>allWf GProp.wf x.1∧x.2.1.wf∧x.2.2.1.wf∧x.2.2.2.1.wf∧True):=
 rdA_cons (rdV_slice (m:=18) Try.underlying22 (by kernel_rfl) (by decide) (fun _=>rfl) rd_GProp) (rdA_cons (rdV_struct Try.underlying24 rd_GKey) (rdA_cons (rdV_struct Try.underlying29 rd_GDesc) (rdA_cons (rdV_struct Try.underlying24 rd_GKey) (rdA_nil))))
theorem contract (H:Type)(enc:TypeId×Value→H)(W:World)(base:Nat)(args':Array Value)(ds gs:List (DataW H))(before:List MemPlace)
  (hval:∀(j:Nat) t v,Try.f6.params[j]?=some t→args'[j]?=some v→Value.okWide Try.prog W .any base t v)
  (hW:DataW.Whole enc Try.prog Try.f6.params.toList Rows.tableFindsSpec.vars false W args'.toList ds gs before) (hk:Rows.uptoSmall H (ds++gs)=true) :
  Calls Try.prog 6 args' W fun e W'=>∃v,e=.returned v∧Rows.tableFindsSpec.post enc Try.prog Try.f6 false true false false W args' v W':=
 law_contract (fid:=6) (fn:=Try.f6) (s:=Rows.tableFindsSpec) (tb:=4) (wf:=fun x:(List GProp)×GKey×GDesc×GKey×Unit=>allWf GProp.wf x.1∧x.2.1.wf∧x.2.2.1.wf∧x.2.2.2.1.wf∧True)
  (avs:=fun x=>[(.sl (List.map GProp.enc x.1) false),(GKey.av x.2.1),(GDesc.av x.2.2.1),(GKey.av x.2.2.2.1)])
  Try.func6 (by kernel_rfl) (by kernel_rfl) (by rw [Try.params6];intro t ht;simp only [List.mem_cons,List.not_mem_nil,or_false] at ht;rcases ht with rfl|rfl|rfl|rfl<;>exact ⟨by kernel_rfl,of_decide_eq_true (by kernel_rfl)⟩)
  (by kernel_rfl) Try.underlying4 rfl
  (fun H ds h=>by
   rw [Try.params6] at h
   match ds,h with
   |[d1,d2,d3,d4],_=>rfl)
  (by rw [Try.params6];exact args)
  (fun x h=>by
   have e:law10_TableFinds x.1 x.2.1 x.2.2.1 x.2.2.2.1=true:=tableFinds_true h.1.2 h.2.2.1 (Nat.le_trans h.1.1 (by decide))
   have:=pc_law10_TableFinds x.1 x.2.1 x.2.2.1 x.2.2.2.1
   rw [e] at this
   exact this)
  bulkA hval hW (of_decide_eq_true hk) (fun _ _ h=>by cases h)
theorem lifted (os:Os)(started:os.Started)(H:Type)(enc:TypeId×Value→H)(F:Stop.Interp) :
  ReturnsInHanded {} Try.checked os 6 .any ((Rows.OpenSpec.upto Rows.tableFindsSpec).pre6 enc Try.prog Try.f6 Rows.tableFindsUptoRow.domain false) (((Rows.OpenSpec.upto Rows.tableFindsSpec).at F).post enc Try.prog Try.f6 false true false false):=by
 refine returnsInHanded_of_cond (C:=Try.checked) (s:=Rows.OpenSpec.upto Rows.tableFindsSpec) (k:=Rows.uptoSmall) rfl own started (by kernel_rfl) Try.func6
  (OpenSpec.witness (enc:=enc) (C:=Try.checked) (s:=Rows.OpenSpec.upto Rows.tableFindsSpec) (k:=Rows.uptoSmall) rfl false
   ⟨#[],#[.slice none 0 0,.agg #[.string ⟨#[]⟩,.int .i64 0],.agg #[.int .u8 0,.int .u8 0,.float .f64 0,.string ⟨#[]⟩,.int .i64 0,.int .u8 0,.float .f64 0,.string ⟨#[]⟩,.int .i64 0,.int .u8 0,.float .f64 0,.string ⟨#[]⟩,.int .i64 0,.bool false,.bool false,.bool false],.agg #[.string ⟨#[]⟩,.int .i64 0]],[]⟩ 8 (by kernel_rfl) (by kernel_rfl) (by kernel_rfl)
   (x:=([.nil,.agg [.lit (.string []),.lit (.int .i64 0)],.agg [.lit (.int .u8 0),.agg [.lit (.int .u8 0),.lit (.float .f64 0),.lit (.string []),.lit (.int .i64 0)],.agg [.lit (.int .u8 0),.lit (.float .f64 0),.lit (.string []),.lit (.int .i64 0)],.agg [.lit (.int .u8 0),.lit (.float .f64 0),.lit (.string []),.lit (.int .i64 0)],.lit (.bool false),.lit (.bool false),.lit (.bool false)],.agg [.lit (.string []),.lit (.int .i64 0)]],[],[])) (by kernel_rfl) rfl (by kernel_rfl)) ?_
 intro W base args' ds gs before hval hW _ hk _
 exact contract H enc W base args' ds gs before hval hW hk
theorem holds : Rows.TableFindsUptoSaid:=
 OpenClaim.holds_of_cond 6 Try.f6 rfl rfl rfl rfl rfl rfl rfl ⟨rfl,rfl,rfl,rfl,rfl⟩ rfl rfl rfl rfl rfl (by kernel_rfl) Try.func6 (by kernel_rfl)
  (of_decide_eq_true (by kernel_rfl)) (by unfold Func.isWrapper;first|(rw [if_pos (by decide +kernel)];kernel_rfl)|(rw [if_neg (by decide +kernel)];exact ⟨rfl,rfl⟩))
  (fun os started H enc _ F=>lifted os started H enc F)
end Go.Proofs.Ytmckdfempgoekaa.FwZ6
end
