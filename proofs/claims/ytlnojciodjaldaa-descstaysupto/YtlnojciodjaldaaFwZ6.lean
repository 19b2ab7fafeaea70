/- WHAT IS PROVED: the given statement 'DescStaysUptoSaid': the law DescStays returns true for every input of bulk at most 1048576, and its arguments read afterwards as before. No condition of our own. -/
import Derived.Test.YtlnojciodjaldaaFwM
import Derived.Test.YtlnojciodjaldaaFwL
section
namespace Go.Proofs.Ytlnojciodjaldaa.FwZ6
open Go.Fw
open Go.Proofs Go.Proofs.Ytlnojciodjaldaa Go.RowKit Go.ChangeShapes
set_option maxRecDepth 100000
set_option linter.unusedVariables false
theorem bulkA {H : Type} : Bulk (H := H) Rows.uptoBulk Rows.uptoBulkAll where
  str := fun b => by simp [Rows.uptoBulk]
  sl := fun e s => by simp [Rows.uptoBulk]
  agg := fun p => by simp [Rows.uptoBulk]
  nil := by simp [Rows.uptoBulkAll]
  cons := fun d r => by simp [Rows.uptoBulkAll]
  one := fun d => by
    cases d with
    | lit l => cases l <;> simp [Rows.uptoBulk]
    | _ => simp [Rows.uptoBulk]
theorem own : ownKnob Try.prog.godebug = none := by kernel_rfl
theorem args : RdA Try.prog [4, 32, 4, 32] (fun x : Bool × GDesc × Bool × GDesc × Unit => [(.p (.bool x.1)), (GDesc.av x.2.1), (.p (.bool x.2.2.1)), (GDesc.av x.2.2.2.1)]) (fun x => True ∧ x.2.1.wf ∧ True ∧ x.2.2.2.1.wf ∧ True) :=
  rdA_cons (rdV_bool Try.underlying4) (rdA_cons (rdV_struct Try.underlying32 rd_GDesc) (rdA_cons (rdV_bool Try.underlying4) (rdA_cons (rdV_struct Try.underlying32 rd_GDesc) (rdA_nil))))
theorem contract (H : Type) (enc : TypeId × Value → H) (W : World) (base : Nat) (args' : Array Value) (ds gs : List (DataW H)) (before : List MemPlace)
    (hval : ∀ (j : Nat) t v, Try.f6.params[j]? = some t → args'[j]? = some v → Value.okWide Try.prog W .any base t v)
    (hW : DataW.Whole enc Try.prog Try.f6.params.toList Rows.descStaysSpec.vars false W args'.toList ds gs before) (hk : Rows.uptoSmall H (ds ++ gs) = true) :
    Calls Try.prog 6 args' W fun e W' => ∃ v, e = .returned v ∧ Rows.descStaysSpec.post enc Try.prog Try.f6 false true false false W args' v W' :=
  law_contract (fid := 6) (fn := Try.f6) (s := Rows.descStaysSpec) (tb := 4) (wf := fun x : Bool × GDesc × Bool × GDesc × Unit => True ∧ x.2.1.wf ∧ True ∧ x.2.2.2.1.wf ∧ True)
    (avs := fun x => [(.p (.bool x.1)), (GDesc.av x.2.1), (.p (.bool x.2.2.1)), (GDesc.av x.2.2.2.1)])
    Try.func6 (by kernel_rfl) (by kernel_rfl) (by rw [Try.params6]; intro t ht; simp only [List.mem_cons, List.not_mem_nil, or_false] at ht; rcases ht with rfl | rfl | rfl | rfl <;> exact ⟨by kernel_rfl, of_decide_eq_true (by kernel_rfl)⟩)
    (by kernel_rfl) Try.underlying4 rfl
    (fun H ds h => by
      rw [Try.params6] at h
      match ds, h with
      | [d1, d2, d3, d4], _ => rfl)
    (by rw [Try.params6]; exact args)
    (fun x h => by
      have e : law09_DescStays x.1 x.2.1 x.2.2.1 x.2.2.2.1 = true := descStays_true (dok h.2.1) (dok h.2.2.2.1)
      have := pc_law09_DescStays x.1 x.2.1 x.2.2.1 x.2.2.2.1
      rw [e] at this
      exact this)
    bulkA hval hW (of_decide_eq_true hk)

theorem lifted (os : Os) (started : os.Started) (H : Type) (enc : TypeId × Value → H) (F : Stop.Interp) :
    ReturnsInHanded {} Try.checked os 6 .any ((Rows.OpenSpec.upto Rows.descStaysSpec).pre6 enc Try.prog Try.f6 Rows.descStaysUptoRow.domain false) (((Rows.OpenSpec.upto Rows.descStaysSpec).at F).post enc Try.prog Try.f6 false true false false) := by
  refine returnsInHanded_of_cond (C := Try.checked) (s := Rows.OpenSpec.upto Rows.descStaysSpec) (k := Rows.uptoSmall) rfl own started (by kernel_rfl) Try.func6
    (OpenSpec.witness (enc := enc) (C := Try.checked) (s := Rows.OpenSpec.upto Rows.descStaysSpec) (k := Rows.uptoSmall) rfl false
      ⟨#[], #[.bool false, .agg #[.int .u8 0, .int .u8 0, .float .f64 0, .string ⟨#[]⟩, .int .i64 0, .int .u8 0, .float .f64 0, .string ⟨#[]⟩, .int .i64 0, .int .u8 0, .float .f64 0, .string ⟨#[]⟩, .int .i64 0, .bool false, .bool false, .bool false], .bool false, .agg #[.int .u8 0, .int .u8 0, .float .f64 0, .string ⟨#[]⟩, .int .i64 0, .int .u8 0, .float .f64 0, .string ⟨#[]⟩, .int .i64 0, .int .u8 0, .float .f64 0, .string ⟨#[]⟩, .int .i64 0, .bool false, .bool false, .bool false]], []⟩ 8 (by kernel_rfl) (by kernel_rfl) (by kernel_rfl)
      (x := ([.lit (.bool false), .agg [.lit (.int .u8 0), .agg [.lit (.int .u8 0), .lit (.float .f64 0), .lit (.string []), .lit (.int .i64 0)], .agg [.lit (.int .u8 0), .lit (.float .f64 0), .lit (.string []), .lit (.int .i64 0)], .agg [.lit (.int .u8 0), .lit (.float .f64 0), .lit (.string []), .lit (.int .i64 0)], .lit (.bool false), .lit (.bool false), .lit (.bool false)], .lit (.bool false), .agg [.lit (.int .u8 0), .agg [.lit (.int .u8 0), .lit (.float .f64 0), .lit (.string []), .lit (.int .i64 0)], .agg [.lit (.int .u8 0), .lit (.float .f64 0), .lit (.string []), .lit (.int .i64 0)], .agg [.lit (.int .u8 0), .lit (.float .f64 0), .lit (.string []), .lit (.int .i64 0)], .lit (.bool false), .lit (.bool false), .lit (.bool false)]], [], [])) (by kernel_rfl) rfl (by kernel_rfl)) ?_
  intro W base args' ds gs before hval hW _ hk _
  exact contract H enc W base args' ds gs before hval hW hk

theorem holds : Rows.DescStaysUptoSaid :=
  OpenClaim.holds_of_cond 6 Try.f6 rfl rfl rfl rfl rfl rfl rfl ⟨rfl, rfl, rfl, rfl, rfl⟩ rfl rfl rfl rfl rfl (by kernel_rfl) Try.func6 (by kernel_rfl)
    (of_decide_eq_true (by kernel_rfl)) (by unfold Func.isWrapper; first | (rw [if_pos (by decide +kernel)]; kernel_rfl) | (rw [if_neg (by decide +kernel)]; exact ⟨rfl, rfl⟩))
    (fun os started H enc _ F => lifted os started H enc F)
end Go.Proofs.Ytlnojciodjaldaa.FwZ6
end
