/- The list of the functions that the law comes to. Conditions: none. -/
import Derived.Test.YtinbeckdjhoeoaaGreatDoorCloa
set_option linter.unusedSectionVars false
set_option linter.unusedSimpArgs false
set_option linter.unusedVariables false
set_option maxRecDepth 100000
set_option maxHeartbeats 0
namespace Go.Proofs.YtinbeckdjhoeoaaGreatDoor
open Go Go.Lm
theorem jM : closureM Tryz.prog jfnA 1428 [3] 0 [] = some jL := by kernel_rfl
end Go.Proofs.YtinbeckdjhoeoaaGreatDoor
