/- Pieces of the run, by the kernel. Conditions: none. -/
import Derived.Test.YtinbeckdjhoeoaaGreatDoorSta0
set_option linter.unusedSectionVars false
set_option linter.unusedSimpArgs false
set_option linter.unusedVariables false
set_option linter.deprecated false
set_option maxRecDepth 100000
set_option maxHeartbeats 0
namespace Go.Proofs.YtinbeckdjhoeoaaGreatDoor
open Go.Lm
theorem cmrun0 : cutO (ks [0, 1]) (ks []) (lrun EA 14742 cmst0) = some cmst1 := by kernel_rfl
theorem cmrun1 : cutO (ks [0, 1]) (ks []) (lrun EA 14732 cmst1) = some cmst2 := by kernel_rfl
end Go.Proofs.YtinbeckdjhoeoaaGreatDoor
