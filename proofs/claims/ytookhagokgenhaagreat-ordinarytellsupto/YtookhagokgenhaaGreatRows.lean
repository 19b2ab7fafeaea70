/-
  No cell of these rows narrows 'for every input' (looked for: loops, veiled, ifaces, maps, wideKeys, modest, calm, conditions, laid).
  DERIVED. THE GIVEN ROWS OF THIS SEAT. 5 by the template 'for every input the law returns true; each argument reads behind the call as it read before'; 0 by the template 'total and deterministic' (their statements: YtookhagokgenhaaGreatTotals.lean).
  GIVEN WITH THE SEED: the statements are not yours to turn. If you find one false, say at which input.
  Laid BY PROGRAM, IN A SANDBOX (cutbox-rows.mjs): the forced cells as the released guide's own fill.sh prints them over the translation 469e07b3ab826c93… (all of the seat's roots in one cut). By AI agents, Wed Nov 11 2026. No macro, syntax, notation, axiom, sorry.
-/
import Derived.Test.YtookhagokgenhaaGreatChecked
import GoSem.Claim
import GoSem.ClaimJoined
import GoSem.ClaimMapViews
import Derived.JoinedTies
import Derived.KernelRfl
namespace Go.Proofs.YtookhagokgenhaaGreat
/- THE CELL 'sum', in the pinned program and in every row, IS THE sha256 OF THE DUMP (.gsa) THAT YtookhagokgenhaaGreatProg.lean LOADS. Nothing in Lean hashes anything: it is a label: what it is worth is what the hold of that sum in a sandbox is worth. -/
noncomputable def Tryz.pinned : Pinned := { name := "ytookhagokgenhaagreat", sum := "469e07b3ab826c93f932be9e9df0f0f8de0339b62fffd9db2ee292643345e5ca", checked := Tryz.checked }
namespace Rows
def none {H : Type} : Left H := { results := [], args := [] }

/-- 'bailifflaw12.OrdinaryTells': WHATEVER THE INPUT: true; the input reads as it did. -/
def ordinaryTellsSpec : ChangeSpec := { name := "ordinaryTells", fn := fun _ => fun
  | [d1, d2, d3, d4] => { results := [.lit (.bool true)], args := [d1, d2, d3, d4] }
  | _ => none }
def ordinaryTellsRow : OpenClaim := { program := "ytookhagokgenhaagreat", sum := "469e07b3ab826c93f932be9e9df0f0f8de0339b62fffd9db2ee292643345e5ca", func := "bailiff/bailifflaw12.OrdinaryTells", spec := "ordinaryTells", inPlace := ["math.archTrunc", "math.Float64bits", "math.Float64frombits", "internal/reflectlite.ValueOf", "internal/reflectlite.Swapper", "(internal/reflectlite.Value).Len"], unfollowed := true, recurses := true, plainKeys := false, apart := false }
def OrdinaryTellsSaid : Prop := ordinaryTellsRow.holds Tryz.pinned (OpenSpec.ofChange ordinaryTellsSpec)

/-- ITS FALSE NEIGHBOUR: 'it returns false'. Refute it at one input. -/
def ordinaryTellsWrong : ChangeSpec := { name := "ordinaryTells", fn := fun _ => fun
  | [d1, d2, d3, d4] => { results := [.lit (.bool false)], args := [d1, d2, d3, d4] }
  | _ => none }
def OrdinaryTellsWrongFalsely : Prop := ordinaryTellsRow.holds Tryz.pinned (OpenSpec.ofChange ordinaryTellsWrong)

/-- 'bailifflaw12.OrdinaryShuts': WHATEVER THE INPUT: true; the input reads as it did. -/
def ordinaryShutsSpec : ChangeSpec := { name := "ordinaryShuts", fn := fun _ => fun
  | [d1, d2, d3] => { results := [.lit (.bool true)], args := [d1, d2, d3] }
  | _ => none }
def ordinaryShutsRow : OpenClaim := { program := "ytookhagokgenhaagreat", sum := "469e07b3ab826c93f932be9e9df0f0f8de0339b62fffd9db2ee292643345e5ca", func := "bailiff/bailifflaw12.OrdinaryShuts", spec := "ordinaryShuts", inPlace := ["math.archTrunc", "math.Float64bits", "math.Float64frombits", "internal/reflectlite.ValueOf", "internal/reflectlite.Swapper", "(internal/reflectlite.Value).Len"], unfollowed := true, recurses := true, plainKeys := false, apart := false }
def OrdinaryShutsSaid : Prop := ordinaryShutsRow.holds Tryz.pinned (OpenSpec.ofChange ordinaryShutsSpec)

/-- ITS FALSE NEIGHBOUR: 'it returns false'. Refute it at one input. -/
def ordinaryShutsWrong : ChangeSpec := { name := "ordinaryShuts", fn := fun _ => fun
  | [d1, d2, d3] => { results := [.lit (.bool false)], args := [d1, d2, d3] }
  | _ => none }
def OrdinaryShutsWrongFalsely : Prop := ordinaryShutsRow.holds Tryz.pinned (OpenSpec.ofChange ordinaryShutsWrong)

/-- 'bailifflaw12.OrdinaryDefines': WHATEVER THE INPUT: true; the input reads as it did. -/
def ordinaryDefinesSpec : ChangeSpec := { name := "ordinaryDefines", fn := fun _ => fun
  | [d1, d2, d3, d4] => { results := [.lit (.bool true)], args := [d1, d2, d3, d4] }
  | _ => none }
def ordinaryDefinesRow : OpenClaim := { program := "ytookhagokgenhaagreat", sum := "469e07b3ab826c93f932be9e9df0f0f8de0339b62fffd9db2ee292643345e5ca", func := "bailiff/bailifflaw12.OrdinaryDefines", spec := "ordinaryDefines", inPlace := ["math.archTrunc", "math.Float64bits", "math.Float64frombits", "internal/reflectlite.ValueOf", "internal/reflectlite.Swapper", "(internal/reflectlite.Value).Len"], unfollowed := true, recurses := true, plainKeys := false, apart := false }
def OrdinaryDefinesSaid : Prop := ordinaryDefinesRow.holds Tryz.pinned (OpenSpec.ofChange ordinaryDefinesSpec)

/-- ITS FALSE NEIGHBOUR: 'it returns false'. Refute it at one input. -/
def ordinaryDefinesWrong : ChangeSpec := { name := "ordinaryDefines", fn := fun _ => fun
  | [d1, d2, d3, d4] => { results := [.lit (.bool false)], args := [d1, d2, d3, d4] }
  | _ => none }
def OrdinaryDefinesWrongFalsely : Prop := ordinaryDefinesRow.holds Tryz.pinned (OpenSpec.ofChange ordinaryDefinesWrong)

/-- 'bailifflaw12.OrdinaryRings': WHATEVER THE INPUT: true; the input reads as it did. -/
def ordinaryRingsSpec : ChangeSpec := { name := "ordinaryRings", fn := fun _ => fun
  | [d1, d2, d3] => { results := [.lit (.bool true)], args := [d1, d2, d3] }
  | _ => none }
def ordinaryRingsRow : OpenClaim := { program := "ytookhagokgenhaagreat", sum := "469e07b3ab826c93f932be9e9df0f0f8de0339b62fffd9db2ee292643345e5ca", func := "bailiff/bailifflaw12.OrdinaryRings", spec := "ordinaryRings", inPlace := ["math.archTrunc", "math.Float64bits", "math.Float64frombits", "internal/reflectlite.ValueOf", "internal/reflectlite.Swapper", "(internal/reflectlite.Value).Len"], unfollowed := true, recurses := true, plainKeys := false, apart := false }
def OrdinaryRingsSaid : Prop := ordinaryRingsRow.holds Tryz.pinned (OpenSpec.ofChange ordinaryRingsSpec)

/-- ITS FALSE NEIGHBOUR: 'it returns false'. Refute it at one input. -/
def ordinaryRingsWrong : ChangeSpec := { name := "ordinaryRings", fn := fun _ => fun
  | [d1, d2, d3] => { results := [.lit (.bool false)], args := [d1, d2, d3] }
  | _ => none }
def OrdinaryRingsWrongFalsely : Prop := ordinaryRingsRow.holds Tryz.pinned (OpenSpec.ofChange ordinaryRingsWrong)

/-- 'bailifflaw12.OrdinaryKeeps': WHATEVER THE INPUT: true; the input reads as it did. -/
def ordinaryKeepsSpec : ChangeSpec := { name := "ordinaryKeeps", fn := fun _ => fun
  | [d1, d2, d3, d4] => { results := [.lit (.bool true)], args := [d1, d2, d3, d4] }
  | _ => none }
def ordinaryKeepsRow : OpenClaim := { program := "ytookhagokgenhaagreat", sum := "469e07b3ab826c93f932be9e9df0f0f8de0339b62fffd9db2ee292643345e5ca", func := "bailiff/bailifflaw12.OrdinaryKeeps", spec := "ordinaryKeeps", inPlace := ["math.archTrunc", "math.Float64bits", "math.Float64frombits", "internal/reflectlite.ValueOf", "internal/reflectlite.Swapper", "(internal/reflectlite.Value).Len"], unfollowed := true, recurses := true, plainKeys := false, apart := false }
def OrdinaryKeepsSaid : Prop := ordinaryKeepsRow.holds Tryz.pinned (OpenSpec.ofChange ordinaryKeepsSpec)

/-- ITS FALSE NEIGHBOUR: 'it returns false'. Refute it at one input. -/
def ordinaryKeepsWrong : ChangeSpec := { name := "ordinaryKeeps", fn := fun _ => fun
  | [d1, d2, d3, d4] => { results := [.lit (.bool false)], args := [d1, d2, d3, d4] }
  | _ => none }
def OrdinaryKeepsWrongFalsely : Prop := ordinaryKeepsRow.holds Tryz.pinned (OpenSpec.ofChange ordinaryKeepsWrong)

/- THE SECOND FORM. 'bulk': how many values and letters a reading holds, each counted each time it is reached (what is shared counts as often as it is met; a slice's spare places count too). A statement '..UptoSaid' is the law's where the arguments, and the package variables that the reading takes, are together of bulk at most 1048576: NARROWER than '..Said'. Prove '..Said' where nothing that the law and all that it calls make is longer than what came in: it says more and counts as full. Else prove '..UptoSaid'. A law counts once. -/
mutual
def uptoBulk {H : Type} : DataW H → Nat
  | .lit (.string bytes) => bytes.length + 1
  | .lit _ => 1
  | .nil => 1
  | .ptr d => uptoBulk d + 1
  | .slice elems spare => uptoBulkAll elems + uptoBulkAll spare + 1
  | .agg parts => uptoBulkAll parts + 1
  | .iface _ d => uptoBulk d + 1
  | .map entries => uptoBulkEntries entries + 1
  | .held _ => 1
def uptoBulkAll {H : Type} : List (DataW H) → Nat
  | [] => 0
  | d :: r => uptoBulk d + uptoBulkAll r
def uptoBulkEntries {H : Type} : List (Lit × DataW H) → Nat
  | [] => 0
  | x :: r => uptoBulkEntry x + uptoBulkEntries r
def uptoBulkEntry {H : Type} : Lit × DataW H → Nat
  | (.string bytes, d) => bytes.length + uptoBulk d + 1
  | (_, d) => uptoBulk d + 1
 end
def uptoSmall : (H : Type) → List (DataW H) → Bool := fun _ ds => decide (uptoBulkAll ds ≤ 1048576)
def OpenSpec.upto (s : _root_.Go.ChangeSpec) : _root_.Go.OpenSpec := { _root_.Go.OpenSpec.ofChange s with cond := some uptoSmall }

/-- 'bailifflaw12.OrdinaryTells', WHERE WHAT IT READS IS OF BULK AT MOST 1048576: true; the input reads as it did. -/
def ordinaryTellsUptoRow : OpenClaim := { program := "ytookhagokgenhaagreat", sum := "469e07b3ab826c93f932be9e9df0f0f8de0339b62fffd9db2ee292643345e5ca", func := "bailiff/bailifflaw12.OrdinaryTells", spec := "ordinaryTells", inPlace := ["math.archTrunc", "math.Float64bits", "math.Float64frombits", "internal/reflectlite.ValueOf", "internal/reflectlite.Swapper", "(internal/reflectlite.Value).Len"], unfollowed := true, recurses := true, plainKeys := false, apart := false, narrowed := true }
def OrdinaryTellsUptoSaid : Prop := ordinaryTellsUptoRow.holds Tryz.pinned (OpenSpec.upto ordinaryTellsSpec)

/-- 'bailifflaw12.OrdinaryShuts', WHERE WHAT IT READS IS OF BULK AT MOST 1048576: true; the input reads as it did. -/
def ordinaryShutsUptoRow : OpenClaim := { program := "ytookhagokgenhaagreat", sum := "469e07b3ab826c93f932be9e9df0f0f8de0339b62fffd9db2ee292643345e5ca", func := "bailiff/bailifflaw12.OrdinaryShuts", spec := "ordinaryShuts", inPlace := ["math.archTrunc", "math.Float64bits", "math.Float64frombits", "internal/reflectlite.ValueOf", "internal/reflectlite.Swapper", "(internal/reflectlite.Value).Len"], unfollowed := true, recurses := true, plainKeys := false, apart := false, narrowed := true }
def OrdinaryShutsUptoSaid : Prop := ordinaryShutsUptoRow.holds Tryz.pinned (OpenSpec.upto ordinaryShutsSpec)

/-- 'bailifflaw12.OrdinaryDefines', WHERE WHAT IT READS IS OF BULK AT MOST 1048576: true; the input reads as it did. -/
def ordinaryDefinesUptoRow : OpenClaim := { program := "ytookhagokgenhaagreat", sum := "469e07b3ab826c93f932be9e9df0f0f8de0339b62fffd9db2ee292643345e5ca", func := "bailiff/bailifflaw12.OrdinaryDefines", spec := "ordinaryDefines", inPlace := ["math.archTrunc", "math.Float64bits", "math.Float64frombits", "internal/reflectlite.ValueOf", "internal/reflectlite.Swapper", "(internal/reflectlite.Value).Len"], unfollowed := true, recurses := true, plainKeys := false, apart := false, narrowed := true }
def OrdinaryDefinesUptoSaid : Prop := ordinaryDefinesUptoRow.holds Tryz.pinned (OpenSpec.upto ordinaryDefinesSpec)

/-- 'bailifflaw12.OrdinaryRings', WHERE WHAT IT READS IS OF BULK AT MOST 1048576: true; the input reads as it did. -/
def ordinaryRingsUptoRow : OpenClaim := { program := "ytookhagokgenhaagreat", sum := "469e07b3ab826c93f932be9e9df0f0f8de0339b62fffd9db2ee292643345e5ca", func := "bailiff/bailifflaw12.OrdinaryRings", spec := "ordinaryRings", inPlace := ["math.archTrunc", "math.Float64bits", "math.Float64frombits", "internal/reflectlite.ValueOf", "internal/reflectlite.Swapper", "(internal/reflectlite.Value).Len"], unfollowed := true, recurses := true, plainKeys := false, apart := false, narrowed := true }
def OrdinaryRingsUptoSaid : Prop := ordinaryRingsUptoRow.holds Tryz.pinned (OpenSpec.upto ordinaryRingsSpec)

/-- 'bailifflaw12.OrdinaryKeeps', WHERE WHAT IT READS IS OF BULK AT MOST 1048576: true; the input reads as it did. -/
def ordinaryKeepsUptoRow : OpenClaim := { program := "ytookhagokgenhaagreat", sum := "469e07b3ab826c93f932be9e9df0f0f8de0339b62fffd9db2ee292643345e5ca", func := "bailiff/bailifflaw12.OrdinaryKeeps", spec := "ordinaryKeeps", inPlace := ["math.archTrunc", "math.Float64bits", "math.Float64frombits", "internal/reflectlite.ValueOf", "internal/reflectlite.Swapper", "(internal/reflectlite.Value).Len"], unfollowed := true, recurses := true, plainKeys := false, apart := false, narrowed := true }
def OrdinaryKeepsUptoSaid : Prop := ordinaryKeepsUptoRow.holds Tryz.pinned (OpenSpec.upto ordinaryKeepsSpec)

end Rows
end Go.Proofs.YtookhagokgenhaaGreat
