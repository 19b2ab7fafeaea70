/- WHAT IS PROVED: the given statement 'TrapConstructUptoCardSaid' (the row's 'TrapConstructUptoSaid', and its tied card): the law TrapConstruct returns true for every input of bulk at most 1048576, and its arguments read afterwards as before. No condition of our own. -/
import Derived.Test.YtmlmleimmeniiaaGreatDoorFwN
import Derived.Test.YtmlmleimmeniiaaGreatDoorFwM
import Derived.Test.YtmlmleimmeniiaaGreatDoorFwL
import Derived.Test.YtmlmleimmeniiaaGreatDoorCards
import Derived.Test.YtmlmleimmeniiaaGreatDoorTie
import Derived.Lib.LaidIn
import Derived.Deep.DeepHandedRow
import Derived.SevenTiedAt
section
namespace Go.Proofs.YtmlmleimmeniiaaGreatDoor.FwZ17
open Go.Fw
open Go.Proofs Go.Proofs.YtmlmleimmeniiaaGreatDoor Go.RowKit Go.ChangeShapes
set_option maxRecDepth 100000
set_option linter.unusedVariables false
theorem bulkA {H : Type} : Bulk (H := H) Rows.uptoBulk Rows.uptoBulkAll where
  str := fun b => by simp [Rows.uptoBulk]
  sl := fun e s => by simp [Rows.uptoBulk]
  agg := fun p => by simp [Rows.uptoBulk]
  nil := by simp [Rows.uptoBulkAll]
  cons := fun d r => by simp [Rows.uptoBulkAll]
  one := fun d => by
    cases d with
    | lit l => cases l <;> simp [Rows.uptoBulk]
    | _ => simp [Rows.uptoBulk]
theorem own : ownKnob Tryz.prog.godebug = none := by kernel_rfl
theorem args : RdA Tryz.prog [33, 24] (fun x : (List GVal) × GVal × Unit => [(.sl (List.map GVal.enc x.1) false), (GVal.av x.2.1)]) (fun x => allWf GVal.wf x.1 ∧ x.2.1.wf ∧ True) :=
  rdA_cons (rdV_slice (m := 4) Tryz.underlying33 (by kernel_rfl) (by decide) (fun _ => rfl) rd_GVal) (rdA_cons (rdV_struct Tryz.underlying24 rd_GVal) (rdA_nil))
theorem contract (H : Type) (enc : TypeId × Value → H) (W : World) (base : Nat) (args' : Array Value) (ds gs : List (DataW H)) (before : List MemPlace)
    (hval : ∀ (j : Nat) t v, Tryz.f17.params[j]? = some t → args'[j]? = some v → Value.okWide Tryz.prog W .any base t v)
    (hW : DataW.Whole enc Tryz.prog Tryz.f17.params.toList Rows.trapConstructSpec.vars false W args'.toList ds gs before) (hk : Rows.uptoSmall H (ds ++ gs) = true) :
    Calls Tryz.prog 17 args' W fun e W' => ∃ v, e = .returned v ∧ Rows.trapConstructSpec.post enc Tryz.prog Tryz.f17 false true false false W args' v W' :=
  law_contract (fid := 17) (fn := Tryz.f17) (s := Rows.trapConstructSpec) (tb := 4) (wf := fun x : (List GVal) × GVal × Unit => allWf GVal.wf x.1 ∧ x.2.1.wf ∧ True)
    (avs := fun x => [(.sl (List.map GVal.enc x.1) false), (GVal.av x.2.1)])
    Tryz.func17 (by kernel_rfl) (by kernel_rfl) (by rw [Tryz.params17]; intro t ht; simp only [List.mem_cons, List.not_mem_nil, or_false] at ht; rcases ht with rfl | rfl <;> exact ⟨by kernel_rfl, of_decide_eq_true (by kernel_rfl)⟩)
    (by kernel_rfl) Tryz.underlying4 rfl
    (fun H ds h => by
      rw [Tryz.params17] at h
      match ds, h with
      | [d1, d2], _ => rfl)
    (by rw [Tryz.params17]; exact args)
    (fun x h => by
      have e : law16_TrapConstruct x.1 x.2.1 = true := construct_true x.1 x.2.1 h.2.1.Kind.1
      have := pc_law16_TrapConstruct x.1 x.2.1
      rw [e] at this
      exact this)
    bulkA hval hW (of_decide_eq_true hk)

def cellsOfD : DataW Unit → Array Value
  | .agg l => (l.map fun | .lit (.int k n) => Value.int k n | _ => .int .u8 0).toArray
  | _ => #[]
/-- a world in which the listed variables hold what is laid -/
noncomputable def laidWorld (os : Os) : World :=
  let w0 := World.holding Tryz.prog os ⟨#[], #[], []⟩
  let put (h : Array Obj) (g : Nat) (cs : Array Value) : Array Obj := h.modify g fun
    | .cells _ t frozen => .cells cs t frozen
    | o => o
  let h1 := put w0.heap ((Tryz.prog.globalNamed "math/bits.deBruijn32tab").getD 0) (cellsOfD Rows.laid_math_bits_deBruijn32tab)
  let h2 := put h1 ((Tryz.prog.globalNamed "math/bits.deBruijn64tab").getD 0) (cellsOfD Rows.laid_math_bits_deBruijn64tab)
  let h3 := put h2 ((Tryz.prog.globalNamed "internal/strconv.uint64pow10").getD 0) (cellsOfD Rows.laid_internal_strconv_uint64pow10)
  { w0 with heap := h3 }
theorem laid_met (os : Os) (args : Array Value) : laidMet Tryz.prog Rows.trapConstructUptoRow.laid ((laidWorld os).forCall (fun _ _ => 0) ⟨#[], args, []⟩).memory :=
  (LaidIn.of_run (l := [("math/bits.deBruijn32tab", Rows.laid_math_bits_deBruijn32tab), ("math/bits.deBruijn64tab", Rows.laid_math_bits_deBruijn64tab), ("internal/strconv.uint64pow10", Rows.laid_internal_strconv_uint64pow10)])
    [(Tryz.prog.globalNamed "math/bits.deBruijn32tab").getD 0, (Tryz.prog.globalNamed "math/bits.deBruijn64tab").getD 0, (Tryz.prog.globalNamed "internal/strconv.uint64pow10").getD 0] 8 (by kernel_rfl) (by kernel_rfl) (by kernel_rfl) (by kernel_rfl)).met
theorem witness_row (os : Os) {H : Type} (enc : TypeId × Value → H) :
    (Rows.OpenSpec.upto Rows.trapConstructSpec).preRow enc Tryz.prog Tryz.f17 Rows.trapConstructUptoRow.domain false Rows.trapConstructUptoRow.laid ((laidWorld os).forCall (fun _ _ => 0) ⟨#[], #[.slice none 0 0, .agg #[.int .u8 0, .float .f64 0, .string ⟨#[]⟩, .int .i64 0]], []⟩).memory #[.slice none 0 0, .agg #[.int .u8 0, .float .f64 0, .string ⟨#[]⟩, .int .i64 0]] := by
  have hw : (DataW.whole enc Tryz.prog ((laidWorld os).forCall (fun _ _ => 0) ⟨#[], #[.slice none 0 0, .agg #[.int .u8 0, .float .f64 0, .string ⟨#[]⟩, .int .i64 0]], []⟩).memory Tryz.f17.params.toList (Rows.OpenSpec.upto Rows.trapConstructSpec).vars false (#[.slice none 0 0, .agg #[.int .u8 0, .float .f64 0, .string ⟨#[]⟩, .int .i64 0]] : Array Value).toList 8).map (fun x => (x.1, x.2.1)) =
      some ([.nil, .agg [.lit (.int .u8 0), .lit (.float .f64 0), .lit (.string []), .lit (.int .i64 0)]], []) := by kernel_rfl
  obtain ⟨⟨x1, x2, x3⟩, hx, hx1⟩ := Option.map_eq_some_iff.1 hw
  simp only [Prod.mk.injEq] at hx1
  obtain ⟨rfl, rfl⟩ := hx1
  exact OpenSpec.preRow_of_cond 8 hx (by kernel_rfl) (fun k hk => by cases hk; rfl) (by kernel_rfl) (laid_met os _)
theorem lifted (os : Os) (started : os.Started) (H : Type) (enc : TypeId × Value → H) (F : Stop.Interp) :
    ReturnsInHanded {} Tryz.checked os 17 .any ((Rows.OpenSpec.upto Rows.trapConstructSpec).preRow enc Tryz.prog Tryz.f17 Rows.trapConstructUptoRow.domain false Rows.trapConstructUptoRow.laid) (((Rows.OpenSpec.upto Rows.trapConstructSpec).at F).post enc Tryz.prog Tryz.f17 false true false false) := by
  refine returnsInHanded_of_row (C := Tryz.checked) (s := Rows.OpenSpec.upto Rows.trapConstructSpec) own started (by kernel_rfl) Tryz.func17
    (witness_row_at (enc := enc) (C := Tryz.checked) false (laidWorld os) #[.slice none 0 0, .agg #[.int .u8 0, .float .f64 0, .string ⟨#[]⟩, .int .i64 0]] rfl (by kernel_rfl) (by kernel_rfl) (by kernel_rfl) (witness_row os enc)) ?_
  intro W base args' ds gs before hval hW _ hk _ _ _ _
  exact contract H enc W base args' ds gs before hval hW (hk _ rfl)
end Go.Proofs.YtmlmleimmeniiaaGreatDoor.FwZ17
end
