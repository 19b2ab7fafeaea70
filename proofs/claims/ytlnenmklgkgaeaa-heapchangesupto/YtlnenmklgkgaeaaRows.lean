/-
  No cell of these rows narrows 'for every input' (looked for: loops, veiled, ifaces, maps, wideKeys, modest, calm, conditions, laid).
  DERIVED. THE GIVEN ROWS OF THIS SEAT. 5 by the template 'for every input the law returns true; each argument reads behind the call as it read before'; 0 by the template 'total and deterministic' (their statements: YtlnenmklgkgaeaaTotals.lean).
  GIVEN WITH THE SEED: the statements are not yours to turn. If you find one false, say at which input.
  Laid BY PROGRAM, IN A SANDBOX (cutbox-rows.mjs): the forced cells as the released guide's own fill.sh prints them over the translation 5c9c391cee1e3b98… (all of the seat's roots in one cut). By AI agents, Wed Nov 11 2026. No macro, syntax, notation, axiom, sorry.
-/
import Derived.Test.YtlnenmklgkgaeaaChecked
import GoSem.Claim
import GoSem.ClaimJoined
import GoSem.ClaimMapViews
import Derived.JoinedTies
import Derived.KernelRfl
namespace Go.Proofs.Ytlnenmklgkgaeaa
/- THE CELL 'sum', in the pinned program and in every row, IS THE sha256 OF THE DUMP (.gsa) THAT YtlnenmklgkgaeaaProg.lean LOADS. Nothing in Lean hashes anything: it is a label: what it is worth is what the hold of that sum in a sandbox is worth. -/
noncomputable def Try.pinned : Pinned := { name := "ytlnenmklgkgaeaa", sum := "5c9c391cee1e3b98b2c4cd6cc454294c1713b0b8e850672e0c9d523163c28790", checked := Try.checked }
namespace Rows
def none {H : Type} : Left H := { results := [], args := [] }

/-- 'bailifflaw25.WitnessTwos': WHATEVER THE INPUT: true; the input reads as it did. -/
def witnessTwosSpec : ChangeSpec := { name := "witnessTwos", fn := fun _ => fun
  | [d1, d2, d3] => { results := [.lit (.bool true)], args := [d1, d2, d3] }
  | _ => none }
def witnessTwosRow : OpenClaim := { program := "ytlnenmklgkgaeaa", sum := "5c9c391cee1e3b98b2c4cd6cc454294c1713b0b8e850672e0c9d523163c28790", func := "bailiff/bailifflaw25.WitnessTwos", spec := "witnessTwos", plainKeys := false, apart := false }
def WitnessTwosSaid : Prop := witnessTwosRow.holds Try.pinned (OpenSpec.ofChange witnessTwosSpec)

/-- ITS FALSE NEIGHBOUR: 'it returns false'. Refute it at one input. -/
def witnessTwosWrong : ChangeSpec := { name := "witnessTwos", fn := fun _ => fun
  | [d1, d2, d3] => { results := [.lit (.bool false)], args := [d1, d2, d3] }
  | _ => none }
def WitnessTwosWrongFalsely : Prop := witnessTwosRow.holds Try.pinned (OpenSpec.ofChange witnessTwosWrong)

/-- 'bailifflaw25.WitnessFirst': WHATEVER THE INPUT: true; the input reads as it did. -/
def witnessFirstSpec : ChangeSpec := { name := "witnessFirst", fn := fun _ => fun
  | [d1, d2] => { results := [.lit (.bool true)], args := [d1, d2] }
  | _ => none }
def witnessFirstRow : OpenClaim := { program := "ytlnenmklgkgaeaa", sum := "5c9c391cee1e3b98b2c4cd6cc454294c1713b0b8e850672e0c9d523163c28790", func := "bailiff/bailifflaw25.WitnessFirst", spec := "witnessFirst", inPlace := ["math.archTrunc", "math.Float64bits", "math.Float64frombits"], plainKeys := false, apart := false }
def WitnessFirstSaid : Prop := witnessFirstRow.holds Try.pinned (OpenSpec.ofChange witnessFirstSpec)

/-- ITS FALSE NEIGHBOUR: 'it returns false'. Refute it at one input. -/
def witnessFirstWrong : ChangeSpec := { name := "witnessFirst", fn := fun _ => fun
  | [d1, d2] => { results := [.lit (.bool false)], args := [d1, d2] }
  | _ => none }
def WitnessFirstWrongFalsely : Prop := witnessFirstRow.holds Try.pinned (OpenSpec.ofChange witnessFirstWrong)

/-- 'bailifflaw25.WitnessHolds': WHATEVER THE INPUT: true; the input reads as it did. -/
def witnessHoldsSpec : ChangeSpec := { name := "witnessHolds", fn := fun _ => fun
  | [d] => { results := [.lit (.bool true)], args := [d] }
  | _ => none }
def witnessHoldsRow : OpenClaim := { program := "ytlnenmklgkgaeaa", sum := "5c9c391cee1e3b98b2c4cd6cc454294c1713b0b8e850672e0c9d523163c28790", func := "bailiff/bailifflaw25.WitnessHolds", spec := "witnessHolds", inPlace := ["math.archTrunc", "math.Float64bits", "math.Float64frombits"], plainKeys := false, apart := false }
def WitnessHoldsSaid : Prop := witnessHoldsRow.holds Try.pinned (OpenSpec.ofChange witnessHoldsSpec)

/-- ITS FALSE NEIGHBOUR: 'it returns false'. Refute it at one input. -/
def witnessHoldsWrong : ChangeSpec := { name := "witnessHolds", fn := fun _ => fun
  | [d] => { results := [.lit (.bool false)], args := [d] }
  | _ => none }
def WitnessHoldsWrongFalsely : Prop := witnessHoldsRow.holds Try.pinned (OpenSpec.ofChange witnessHoldsWrong)

/-- 'bailifflaw11.HeapApart': WHATEVER THE INPUT: true; the input reads as it did. -/
def heapApartSpec : ChangeSpec := { name := "heapApart", fn := fun _ => fun
  | [d] => { results := [.lit (.bool true)], args := [d] }
  | _ => none }
def heapApartRow : OpenClaim := { program := "ytlnenmklgkgaeaa", sum := "5c9c391cee1e3b98b2c4cd6cc454294c1713b0b8e850672e0c9d523163c28790", func := "bailiff/bailifflaw11.HeapApart", spec := "heapApart", inPlace := ["math.archTrunc", "math.Float64bits", "math.Float64frombits"], unfollowed := true, recurses := true, plainKeys := false, apart := false }
def HeapApartSaid : Prop := heapApartRow.holds Try.pinned (OpenSpec.ofChange heapApartSpec)

/-- ITS FALSE NEIGHBOUR: 'it returns false'. Refute it at one input. -/
def heapApartWrong : ChangeSpec := { name := "heapApart", fn := fun _ => fun
  | [d] => { results := [.lit (.bool false)], args := [d] }
  | _ => none }
def HeapApartWrongFalsely : Prop := heapApartRow.holds Try.pinned (OpenSpec.ofChange heapApartWrong)

/-- 'bailifflaw11.HeapChanges': WHATEVER THE INPUT: true; the input reads as it did. -/
def heapChangesSpec : ChangeSpec := { name := "heapChanges", fn := fun _ => fun
  | [d1, d2, d3] => { results := [.lit (.bool true)], args := [d1, d2, d3] }
  | _ => none }
def heapChangesRow : OpenClaim := { program := "ytlnenmklgkgaeaa", sum := "5c9c391cee1e3b98b2c4cd6cc454294c1713b0b8e850672e0c9d523163c28790", func := "bailiff/bailifflaw11.HeapChanges", spec := "heapChanges", inPlace := ["math.archTrunc", "math.Float64bits", "math.Float64frombits"], unfollowed := true, recurses := true, plainKeys := false, apart := false }
def HeapChangesSaid : Prop := heapChangesRow.holds Try.pinned (OpenSpec.ofChange heapChangesSpec)

/-- ITS FALSE NEIGHBOUR: 'it returns false'. Refute it at one input. -/
def heapChangesWrong : ChangeSpec := { name := "heapChanges", fn := fun _ => fun
  | [d1, d2, d3] => { results := [.lit (.bool false)], args := [d1, d2, d3] }
  | _ => none }
def HeapChangesWrongFalsely : Prop := heapChangesRow.holds Try.pinned (OpenSpec.ofChange heapChangesWrong)

/- THE SECOND FORM. 'bulk': how many values and letters a reading holds, each counted each time it is reached (what is shared counts as often as it is met; a slice's spare places count too). A statement '..UptoSaid' is the law's where the arguments, and the package variables that the reading takes, are together of bulk at most 1048576: NARROWER than '..Said'. Prove '..Said' where nothing that the law and all that it calls make is longer than what came in: it says more and counts as full. Else prove '..UptoSaid'. A law counts once. -/
mutual
def uptoBulk {H : Type} : DataW H → Nat
  | .lit (.string bytes) => bytes.length + 1
  | .lit _ => 1
  | .nil => 1
  | .ptr d => uptoBulk d + 1
  | .slice elems spare => uptoBulkAll elems + uptoBulkAll spare + 1
  | .agg parts => uptoBulkAll parts + 1
  | .iface _ d => uptoBulk d + 1
  | .map entries => uptoBulkEntries entries + 1
  | .held _ => 1
def uptoBulkAll {H : Type} : List (DataW H) → Nat
  | [] => 0
  | d :: r => uptoBulk d + uptoBulkAll r
def uptoBulkEntries {H : Type} : List (Lit × DataW H) → Nat
  | [] => 0
  | x :: r => uptoBulkEntry x + uptoBulkEntries r
def uptoBulkEntry {H : Type} : Lit × DataW H → Nat
  | (.string bytes, d) => bytes.length + uptoBulk d + 1
  | (_, d) => uptoBulk d + 1
 end
def uptoSmall : (H : Type) → List (DataW H) → Bool := fun _ ds => decide (uptoBulkAll ds ≤ 1048576)
def OpenSpec.upto (s : _root_.Go.ChangeSpec) : _root_.Go.OpenSpec := { _root_.Go.OpenSpec.ofChange s with cond := some uptoSmall }

/-- 'bailifflaw25.WitnessTwos', WHERE WHAT IT READS IS OF BULK AT MOST 1048576: true; the input reads as it did. -/
def witnessTwosUptoRow : OpenClaim := { program := "ytlnenmklgkgaeaa", sum := "5c9c391cee1e3b98b2c4cd6cc454294c1713b0b8e850672e0c9d523163c28790", func := "bailiff/bailifflaw25.WitnessTwos", spec := "witnessTwos", plainKeys := false, apart := false, narrowed := true }
def WitnessTwosUptoSaid : Prop := witnessTwosUptoRow.holds Try.pinned (OpenSpec.upto witnessTwosSpec)

/-- 'bailifflaw25.WitnessFirst', WHERE WHAT IT READS IS OF BULK AT MOST 1048576: true; the input reads as it did. -/
def witnessFirstUptoRow : OpenClaim := { program := "ytlnenmklgkgaeaa", sum := "5c9c391cee1e3b98b2c4cd6cc454294c1713b0b8e850672e0c9d523163c28790", func := "bailiff/bailifflaw25.WitnessFirst", spec := "witnessFirst", inPlace := ["math.archTrunc", "math.Float64bits", "math.Float64frombits"], plainKeys := false, apart := false, narrowed := true }
def WitnessFirstUptoSaid : Prop := witnessFirstUptoRow.holds Try.pinned (OpenSpec.upto witnessFirstSpec)

/-- 'bailifflaw25.WitnessHolds', WHERE WHAT IT READS IS OF BULK AT MOST 1048576: true; the input reads as it did. -/
def witnessHoldsUptoRow : OpenClaim := { program := "ytlnenmklgkgaeaa", sum := "5c9c391cee1e3b98b2c4cd6cc454294c1713b0b8e850672e0c9d523163c28790", func := "bailiff/bailifflaw25.WitnessHolds", spec := "witnessHolds", inPlace := ["math.archTrunc", "math.Float64bits", "math.Float64frombits"], plainKeys := false, apart := false, narrowed := true }
def WitnessHoldsUptoSaid : Prop := witnessHoldsUptoRow.holds Try.pinned (OpenSpec.upto witnessHoldsSpec)

/-- 'bailifflaw11.HeapApart', WHERE WHAT IT READS IS OF BULK AT MOST 1048576: true; the input reads as it did. -/
def heapApartUptoRow : OpenClaim := { program := "ytlnenmklgkgaeaa", sum := "5c9c391cee1e3b98b2c4cd6cc454294c1713b0b8e850672e0c9d523163c28790", func := "bailiff/bailifflaw11.HeapApart", spec := "heapApart", inPlace := ["math.archTrunc", "math.Float64bits", "math.Float64frombits"], unfollowed := true, recurses := true, plainKeys := false, apart := false, narrowed := true }
def HeapApartUptoSaid : Prop := heapApartUptoRow.holds Try.pinned (OpenSpec.upto heapApartSpec)

/-- 'bailifflaw11.HeapChanges', WHERE WHAT IT READS IS OF BULK AT MOST 1048576: true; the input reads as it did. -/
def heapChangesUptoRow : OpenClaim := { program := "ytlnenmklgkgaeaa", sum := "5c9c391cee1e3b98b2c4cd6cc454294c1713b0b8e850672e0c9d523163c28790", func := "bailiff/bailifflaw11.HeapChanges", spec := "heapChanges", inPlace := ["math.archTrunc", "math.Float64bits", "math.Float64frombits"], unfollowed := true, recurses := true, plainKeys := false, apart := false, narrowed := true }
def HeapChangesUptoSaid : Prop := heapChangesUptoRow.holds Try.pinned (OpenSpec.upto heapChangesSpec)

end Rows
end Go.Proofs.Ytlnenmklgkgaeaa
