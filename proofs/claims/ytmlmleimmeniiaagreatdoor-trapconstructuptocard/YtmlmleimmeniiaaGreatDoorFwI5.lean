/- Machinery of this seat's proofs (TCA5): lemmas that the last text uses; no statement of its own. -/
import Derived.Test.YtmlmleimmeniiaaGreatDoorFwM
section
namespace Go.Fw
set_option linter.unusedVariables false
set_option maxRecDepth 100000
open Go.Proofs
/-! inner.Arrayed at the lengths from 54 to 59. -/
theorem arr_54 : arrOk 54 = true := by kernel_rfl
theorem arr_55 : arrOk 55 = true := by kernel_rfl
theorem arr_56 : arrOk 56 = true := by kernel_rfl
theorem arr_57 : arrOk 57 = true := by kernel_rfl
theorem arr_58 : arrOk 58 = true := by kernel_rfl
theorem arr_59 : arrOk 59 = true := by kernel_rfl
end Go.Fw
end
