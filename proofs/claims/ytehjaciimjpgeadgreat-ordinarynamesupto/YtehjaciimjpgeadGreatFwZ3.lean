/- WHAT IS PROVED: the given statement 'OrdinaryNamesUptoSaid': the law OrdinaryNames returns true for every input of bulk at most 1048576, and its arguments read afterwards as before. No condition of our own. -/
import Derived.Test.YtehjaciimjpgeadGreatFwM
section
namespace Go.Proofs.YtehjaciimjpgeadGreat.FwZ3
open Go.Fw
open Go.Proofs Go.Proofs.YtehjaciimjpgeadGreat Go.RowKit Go.ChangeShapes
set_option maxRecDepth 100000
set_option linter.unusedVariables false
theorem bulkA {H : Type} : Bulk (H := H) Rows.uptoBulk Rows.uptoBulkAll where
  str := fun b => by simp [Rows.uptoBulk]
  sl := fun e s => by simp [Rows.uptoBulk]
  agg := fun p => by simp [Rows.uptoBulk]
  nil := by simp [Rows.uptoBulkAll]
  cons := fun d r => by simp [Rows.uptoBulkAll]
  one := fun d => by
    cases d with
    | lit l => cases l <;> simp [Rows.uptoBulk]
    | _ => simp [Rows.uptoBulk]
theorem own : ownKnob Tryz.prog.godebug = none := by kernel_rfl
theorem args : RdA Tryz.prog [] (fun x : Unit => []) (fun x => True) :=
  rdA_nil
theorem contract (H : Type) (enc : TypeId × Value → H) (W : World) (base : Nat) (args' : Array Value) (ds gs : List (DataW H)) (before : List MemPlace)
    (hval : ∀ (j : Nat) t v, Tryz.f3.params[j]? = some t → args'[j]? = some v → Value.okWide Tryz.prog W .any base t v)
    (hW : DataW.Whole enc Tryz.prog Tryz.f3.params.toList Rows.ordinaryNamesSpec.vars false W args'.toList ds gs before) (hk : Rows.uptoSmall H (ds ++ gs) = true) :
    Calls Tryz.prog 3 args' W fun e W' => ∃ v, e = .returned v ∧ Rows.ordinaryNamesSpec.post enc Tryz.prog Tryz.f3 false true false false W args' v W' :=
  law_contract (fid := 3) (fn := Tryz.f3) (s := Rows.ordinaryNamesSpec) (tb := 4) (wf := fun x : Unit => True)
    (avs := fun x => [])
    Tryz.func3 (by kernel_rfl) (by kernel_rfl) (by have hp : Tryz.f3.params = #[] := (by kernel_rfl); rw [hp]; intro t ht; simp at ht)
    (by kernel_rfl) Tryz.underlying4 rfl
    (fun H ds h => by
      have hp : Tryz.f3.params = #[] := (by kernel_rfl)
      rw [hp] at h
      match ds, h with
      | [], _ => rfl)
    (by have hp : Tryz.f3.params = #[] := (by kernel_rfl); rw [hp]; exact args)
    (fun x h => by
      have e : law12_OrdinaryNames  = true := rfl
      have := pc_law12_OrdinaryNames 
      rw [e] at this
      exact this)
    bulkA hval hW (of_decide_eq_true hk)

theorem lifted (os : Os) (started : os.Started) (H : Type) (enc : TypeId × Value → H) (F : Stop.Interp) :
    ReturnsInHanded {} Tryz.checked os 3 .any ((Rows.OpenSpec.upto Rows.ordinaryNamesSpec).pre6 enc Tryz.prog Tryz.f3 Rows.ordinaryNamesUptoRow.domain false) (((Rows.OpenSpec.upto Rows.ordinaryNamesSpec).at F).post enc Tryz.prog Tryz.f3 false true false false) := by
  refine returnsInHanded_of_cond (C := Tryz.checked) (s := Rows.OpenSpec.upto Rows.ordinaryNamesSpec) (k := Rows.uptoSmall) rfl own started (by kernel_rfl) Tryz.func3
    (OpenSpec.witness (enc := enc) (C := Tryz.checked) (s := Rows.OpenSpec.upto Rows.ordinaryNamesSpec) (k := Rows.uptoSmall) rfl false
      ⟨#[], #[], []⟩ 8 (by kernel_rfl) (by kernel_rfl) (by kernel_rfl)
      (x := ([], [], [])) (by kernel_rfl) rfl (by kernel_rfl)) ?_
  intro W base args' ds gs before hval hW _ hk _
  exact contract H enc W base args' ds gs before hval hW hk

theorem holds : Rows.OrdinaryNamesUptoSaid :=
  OpenClaim.holds_of_cond 3 Tryz.f3 rfl rfl rfl rfl rfl rfl rfl ⟨rfl, rfl, rfl, rfl, rfl⟩ rfl rfl rfl rfl rfl (by kernel_rfl) Tryz.func3 (by kernel_rfl)
    (of_decide_eq_true (by kernel_rfl)) (by unfold Func.isWrapper; first | (rw [if_pos (by decide +kernel)]; kernel_rfl) | (rw [if_neg (by decide +kernel)]; exact ⟨rfl, rfl⟩))
    (fun os started H enc _ F => lifted os started H enc F)
end Go.Proofs.YtehjaciimjpgeadGreat.FwZ3
end
