/- WHAT IS PROVED: the given statement 'ReachNamesUptoCardSaid' (the row's 'ReachNamesUptoSaid', and its tied card): the law ReachNames returns true for every input of bulk at most 1048576, and its arguments read afterwards as before. No condition of our own. -/
import Derived.Test.YtehjaciimjpgeafGreatDoorFwM
import Derived.Test.YtehjaciimjpgeafGreatDoorCards
import Derived.Test.YtehjaciimjpgeafGreatDoorTie
import Derived.Lib.LaidIn
import Derived.Deep.DeepHandedRow
import Derived.SevenTiedAt
section
namespace Go.Proofs.YtehjaciimjpgeafGreatDoor.FwZ3
open Go.Fw
open Go.Proofs Go.Proofs.YtehjaciimjpgeafGreatDoor Go.RowKit Go.ChangeShapes
set_option maxRecDepth 100000
set_option linter.unusedVariables false
theorem bulkA {H : Type} : Bulk (H := H) Rows.uptoBulk Rows.uptoBulkAll where
  str := fun b => by simp [Rows.uptoBulk]
  sl := fun e s => by simp [Rows.uptoBulk]
  agg := fun p => by simp [Rows.uptoBulk]
  nil := by simp [Rows.uptoBulkAll]
  cons := fun d r => by simp [Rows.uptoBulkAll]
  one := fun d => by
    cases d with
    | lit l => cases l <;> simp [Rows.uptoBulk]
    | _ => simp [Rows.uptoBulk]
theorem own : ownKnob Tryz.prog.godebug = none := by kernel_rfl
theorem args : RdA Tryz.prog [] (fun x : Unit => []) (fun x => True) :=
  rdA_nil
theorem contract (H : Type) (enc : TypeId × Value → H) (W : World) (base : Nat) (args' : Array Value) (ds gs : List (DataW H)) (before : List MemPlace)
    (hval : ∀ (j : Nat) t v, Tryz.f3.params[j]? = some t → args'[j]? = some v → Value.okWide Tryz.prog W .any base t v)
    (hW : DataW.Whole enc Tryz.prog Tryz.f3.params.toList Rows.reachNamesSpec.vars false W args'.toList ds gs before) (hk : Rows.uptoSmall H (ds ++ gs) = true) :
    Calls Tryz.prog 3 args' W fun e W' => ∃ v, e = .returned v ∧ Rows.reachNamesSpec.post enc Tryz.prog Tryz.f3 false true false false W args' v W' :=
  law_contract (fid := 3) (fn := Tryz.f3) (s := Rows.reachNamesSpec) (tb := 4) (wf := fun x : Unit => True)
    (avs := fun x => [])
    Tryz.func3 (by kernel_rfl) (by kernel_rfl) (by have hp : Tryz.f3.params = #[] := (by kernel_rfl); rw [hp]; intro t ht; simp at ht)
    (by kernel_rfl) Tryz.underlying4 rfl
    (fun H ds h => by
      have hp : Tryz.f3.params = #[] := (by kernel_rfl)
      rw [hp] at h
      match ds, h with
      | [], _ => rfl)
    (by have hp : Tryz.f3.params = #[] := (by kernel_rfl); rw [hp]; exact args)
    (fun x h => by
      have e : law18_ReachNames  = true := rfl
      have := pc_law18_ReachNames 
      rw [e] at this
      exact this)
    bulkA hval hW (of_decide_eq_true hk) (fun _ _ h => by cases h)

def cellsOfD : DataW Unit → Array Value
  | .agg l => (l.map fun | .lit (.int k n) => Value.int k n | _ => .int .u8 0).toArray
  | _ => #[]
/-- a world in which the listed variables hold what is laid -/
noncomputable def laidWorld (os : Os) : World :=
  let w0 := World.holding Tryz.prog os ⟨#[], #[], []⟩
  let put (h : Array Obj) (g : Nat) (cs : Array Value) : Array Obj := h.modify g fun
    | .cells _ t frozen => .cells cs t frozen
    | o => o
  let h1 := put w0.heap ((Tryz.prog.globalNamed "math/bits.deBruijn32tab").getD 0) (cellsOfD Rows.laid_math_bits_deBruijn32tab)
  let h2 := put h1 ((Tryz.prog.globalNamed "math/bits.deBruijn64tab").getD 0) (cellsOfD Rows.laid_math_bits_deBruijn64tab)
  let h3 := put h2 ((Tryz.prog.globalNamed "internal/strconv.uint64pow10").getD 0) (cellsOfD Rows.laid_internal_strconv_uint64pow10)
  { w0 with heap := h3 }
theorem laid_met (os : Os) (args : Array Value) : laidMet Tryz.prog Rows.reachNamesUptoRow.laid ((laidWorld os).forCall (fun _ _ => 0) ⟨#[], args, []⟩).memory :=
  (LaidIn.of_run (l := [("math/bits.deBruijn32tab", Rows.laid_math_bits_deBruijn32tab), ("math/bits.deBruijn64tab", Rows.laid_math_bits_deBruijn64tab), ("internal/strconv.uint64pow10", Rows.laid_internal_strconv_uint64pow10)])
    [(Tryz.prog.globalNamed "math/bits.deBruijn32tab").getD 0, (Tryz.prog.globalNamed "math/bits.deBruijn64tab").getD 0, (Tryz.prog.globalNamed "internal/strconv.uint64pow10").getD 0] 8 (by kernel_rfl) (by kernel_rfl) (by kernel_rfl) (by kernel_rfl)).met
theorem witness_row (os : Os) {H : Type} (enc : TypeId × Value → H) :
    (Rows.OpenSpec.upto Rows.reachNamesSpec).preRow enc Tryz.prog Tryz.f3 Rows.reachNamesUptoRow.domain false Rows.reachNamesUptoRow.laid ((laidWorld os).forCall (fun _ _ => 0) ⟨#[], #[], []⟩).memory #[] := by
  have hw : (DataW.whole enc Tryz.prog ((laidWorld os).forCall (fun _ _ => 0) ⟨#[], #[], []⟩).memory Tryz.f3.params.toList (Rows.OpenSpec.upto Rows.reachNamesSpec).vars false (#[] : Array Value).toList 8).map (fun x => (x.1, x.2.1)) =
      some ([], []) := by kernel_rfl
  obtain ⟨⟨x1, x2, x3⟩, hx, hx1⟩ := Option.map_eq_some_iff.1 hw
  simp only [Prod.mk.injEq] at hx1
  obtain ⟨rfl, rfl⟩ := hx1
  exact OpenSpec.preRow_of_cond 8 hx (by kernel_rfl) (fun k hk => by cases hk; rfl) (by kernel_rfl) (laid_met os _)
theorem lifted (os : Os) (started : os.Started) (H : Type) (enc : TypeId × Value → H) (F : Stop.Interp) :
    ReturnsInHanded {} Tryz.checked os 3 .any ((Rows.OpenSpec.upto Rows.reachNamesSpec).preRow enc Tryz.prog Tryz.f3 Rows.reachNamesUptoRow.domain false Rows.reachNamesUptoRow.laid) (((Rows.OpenSpec.upto Rows.reachNamesSpec).at F).post enc Tryz.prog Tryz.f3 false true false false) := by
  refine returnsInHanded_of_row (C := Tryz.checked) (s := Rows.OpenSpec.upto Rows.reachNamesSpec) own started (by kernel_rfl) Tryz.func3
    (witness_row_at (enc := enc) (C := Tryz.checked) false (laidWorld os) #[] rfl (by kernel_rfl) (by kernel_rfl) (by kernel_rfl) (witness_row os enc)) ?_
  intro W base args' ds gs before hval hW _ hk _ _ _ _
  exact contract H enc W base args' ds gs before hval hW (hk _ rfl)
end Go.Proofs.YtehjaciimjpgeafGreatDoor.FwZ3
end
