/- Machinery of this seat's proofs (TCA3): lemmas that the last text uses; no statement of its own. -/
import Derived.Test.YtmlmleimmeniiaaGreatDoorFwM
section
namespace Go.Fw
set_option linter.unusedVariables false
set_option maxRecDepth 100000
open Go.Proofs
/-! inner.Arrayed at the lengths from 36 to 45. -/
theorem arr_36 : arrOk 36 = true := by kernel_rfl
theorem arr_37 : arrOk 37 = true := by kernel_rfl
theorem arr_38 : arrOk 38 = true := by kernel_rfl
theorem arr_39 : arrOk 39 = true := by kernel_rfl
theorem arr_40 : arrOk 40 = true := by kernel_rfl
theorem arr_41 : arrOk 41 = true := by kernel_rfl
theorem arr_42 : arrOk 42 = true := by kernel_rfl
theorem arr_43 : arrOk 43 = true := by kernel_rfl
theorem arr_44 : arrOk 44 = true := by kernel_rfl
theorem arr_45 : arrOk 45 = true := by kernel_rfl
end Go.Fw
end
