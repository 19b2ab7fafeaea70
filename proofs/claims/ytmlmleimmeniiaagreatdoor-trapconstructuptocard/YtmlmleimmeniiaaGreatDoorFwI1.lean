/- Machinery of this seat's proofs (TCA1): lemmas that the last text uses; no statement of its own. -/
import Derived.Test.YtmlmleimmeniiaaGreatDoorFwM
section
namespace Go.Fw
set_option linter.unusedVariables false
set_option maxRecDepth 100000
open Go.Proofs
/-! inner.Arrayed at the lengths from 0 to 23. -/
theorem arr_0 : arrOk 0 = true := by kernel_rfl
theorem arr_1 : arrOk 1 = true := by kernel_rfl
theorem arr_2 : arrOk 2 = true := by kernel_rfl
theorem arr_3 : arrOk 3 = true := by kernel_rfl
theorem arr_4 : arrOk 4 = true := by kernel_rfl
theorem arr_5 : arrOk 5 = true := by kernel_rfl
theorem arr_6 : arrOk 6 = true := by kernel_rfl
theorem arr_7 : arrOk 7 = true := by kernel_rfl
theorem arr_8 : arrOk 8 = true := by kernel_rfl
theorem arr_9 : arrOk 9 = true := by kernel_rfl
theorem arr_10 : arrOk 10 = true := by kernel_rfl
theorem arr_11 : arrOk 11 = true := by kernel_rfl
theorem arr_12 : arrOk 12 = true := by kernel_rfl
theorem arr_13 : arrOk 13 = true := by kernel_rfl
theorem arr_14 : arrOk 14 = true := by kernel_rfl
theorem arr_15 : arrOk 15 = true := by kernel_rfl
theorem arr_16 : arrOk 16 = true := by kernel_rfl
theorem arr_17 : arrOk 17 = true := by kernel_rfl
theorem arr_18 : arrOk 18 = true := by kernel_rfl
theorem arr_19 : arrOk 19 = true := by kernel_rfl
theorem arr_20 : arrOk 20 = true := by kernel_rfl
theorem arr_21 : arrOk 21 = true := by kernel_rfl
theorem arr_22 : arrOk 22 = true := by kernel_rfl
theorem arr_23 : arrOk 23 = true := by kernel_rfl
end Go.Fw
end
