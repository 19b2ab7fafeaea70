/- Machinery of this seat's proofs (LT): lemmas that the last text uses; no statement of its own. -/
import Derived.Test.YtmlmleimmeniiaaGreatDoorFwM
section
namespace Go.Fw
/-! The plain laws of the traps. -/
theorem isExtensible_true (x0 : GVal) (x1 : Bool) : law16_TrapIsExtensible x0 x1 = true := by
  unfold law16_TrapIsExtensible
  simp only [law16_alive, bEq]
  generalize value_May x0 = a
  generalize value_Truth x0 = b
  cases a <;> cases b <;> cases x1 <;> rfl
end Go.Fw
end
