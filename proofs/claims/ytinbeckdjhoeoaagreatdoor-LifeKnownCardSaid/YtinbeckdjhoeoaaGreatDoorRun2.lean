/- Pieces of the run, by the kernel. Conditions: none. -/
import Derived.Test.YtinbeckdjhoeoaaGreatDoorSta0
set_option linter.unusedSectionVars false
set_option linter.unusedSimpArgs false
set_option linter.unusedVariables false
set_option linter.deprecated false
set_option maxRecDepth 100000
set_option maxHeartbeats 0
namespace Go.Proofs.YtinbeckdjhoeoaaGreatDoor
open Go.Lm
theorem lkrun0 : cutO (ks [0, 1, 3, 15, 23, 11, 147, 9, 17, 25, 13, 2, 4, 8, 16, 24, 12, 6, 10, 18, 26, 22]) (ks []) (lrun EB 20357 lkst0) = some lkst1 := by kernel_rfl
theorem lkrun1 : cutO (ks [0, 1, 403, 395, 401, 2, 404, 402, 394]) (ks []) (lrun EB 14689 lkst1) = some lkst2 := by kernel_rfl
end Go.Proofs.YtinbeckdjhoeoaaGreatDoor
