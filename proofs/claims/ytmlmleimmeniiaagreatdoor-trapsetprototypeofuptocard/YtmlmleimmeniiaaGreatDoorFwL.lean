/- Machinery of this seat's proofs (LT): lemmas that the last text uses; no statement of its own. -/
import Derived.Test.YtmlmleimmeniiaaGreatDoorFwM
section
namespace Go.Fw
/-! The plain laws of the traps. -/
theorem isExtensible_true (x0 : GVal) (x1 : Bool) : law16_TrapIsExtensible x0 x1 = true := by
  unfold law16_TrapIsExtensible
  simp only [law16_alive, bEq]
  generalize value_May x0 = a
  generalize value_Truth x0 = b
  cases a <;> cases b <;> cases x1 <;> rfl
end Go.Fw
namespace Go.Fw
theorem preventExtensions_true (x0 : GVal) (x1 : Bool) : law16_TrapPreventExtensions x0 x1 = true := by
  unfold law16_TrapPreventExtensions
  simp only [law16_alive, bEq]
  generalize value_May x0 = a
  generalize value_Truth x0 = b
  cases a <;> cases b <;> cases x1 <;> rfl
theorem setPrototypeOf_true (x0 x1 : GVal) (x2 : Bool) (x3 : GVal) : law16_TrapSetPrototypeOf x0 x1 x2 x3 = true := by
  unfold law16_TrapSetPrototypeOf
  simp only [law16_alive, bEq]
  generalize (value_May x3 && _) = a
  generalize (value_May x0 && _) = b
  generalize value_May x1 = c
  generalize value_Truth x1 = d
  generalize value_Same x0 x3 = e
  cases a <;> cases b <;> cases c <;> cases d <;> cases e <;> cases x2 <;> rfl
end Go.Fw
end
