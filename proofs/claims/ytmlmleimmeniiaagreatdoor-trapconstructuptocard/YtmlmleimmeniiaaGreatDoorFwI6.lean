/- Machinery of this seat's proofs (TCA6): lemmas that the last text uses; no statement of its own. -/
import Derived.Test.YtmlmleimmeniiaaGreatDoorFwM
section
namespace Go.Fw
set_option linter.unusedVariables false
set_option maxRecDepth 100000
open Go.Proofs
/-! inner.Arrayed at the lengths from 60 to 64. -/
theorem arr_60 : arrOk 60 = true := by kernel_rfl
theorem arr_61 : arrOk 61 = true := by kernel_rfl
theorem arr_62 : arrOk 62 = true := by kernel_rfl
theorem arr_63 : arrOk 63 = true := by kernel_rfl
theorem arr_64 : arrOk 64 = true := by kernel_rfl
end Go.Fw
end
