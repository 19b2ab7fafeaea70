/- Machinery of this seat's proofs (TCA2): lemmas that the last text uses; no statement of its own. -/
import Derived.Test.YtmlmleimmeniiaaGreatDoorFwM
section
namespace Go.Fw
set_option linter.unusedVariables false
set_option maxRecDepth 100000
open Go.Proofs
/-! inner.Arrayed at the lengths from 24 to 35. -/
theorem arr_24 : arrOk 24 = true := by kernel_rfl
theorem arr_25 : arrOk 25 = true := by kernel_rfl
theorem arr_26 : arrOk 26 = true := by kernel_rfl
theorem arr_27 : arrOk 27 = true := by kernel_rfl
theorem arr_28 : arrOk 28 = true := by kernel_rfl
theorem arr_29 : arrOk 29 = true := by kernel_rfl
theorem arr_30 : arrOk 30 = true := by kernel_rfl
theorem arr_31 : arrOk 31 = true := by kernel_rfl
theorem arr_32 : arrOk 32 = true := by kernel_rfl
theorem arr_33 : arrOk 33 = true := by kernel_rfl
theorem arr_34 : arrOk 34 = true := by kernel_rfl
theorem arr_35 : arrOk 35 = true := by kernel_rfl
end Go.Fw
end
