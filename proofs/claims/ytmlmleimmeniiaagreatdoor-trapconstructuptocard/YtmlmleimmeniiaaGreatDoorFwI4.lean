/- Machinery of this seat's proofs (TCA4): lemmas that the last text uses; no statement of its own. -/
import Derived.Test.YtmlmleimmeniiaaGreatDoorFwM
section
namespace Go.Fw
set_option linter.unusedVariables false
set_option maxRecDepth 100000
open Go.Proofs
/-! inner.Arrayed at the lengths from 46 to 53. -/
theorem arr_46 : arrOk 46 = true := by kernel_rfl
theorem arr_47 : arrOk 47 = true := by kernel_rfl
theorem arr_48 : arrOk 48 = true := by kernel_rfl
theorem arr_49 : arrOk 49 = true := by kernel_rfl
theorem arr_50 : arrOk 50 = true := by kernel_rfl
theorem arr_51 : arrOk 51 = true := by kernel_rfl
theorem arr_52 : arrOk 52 = true := by kernel_rfl
theorem arr_53 : arrOk 53 = true := by kernel_rfl
end Go.Fw
end
