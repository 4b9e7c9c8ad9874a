/- Pieces of the run, by the kernel. Conditions: none. -/
import Derived.Test.YtinbeckdjhoeoaaGreatDoorSta0
set_option linter.unusedSectionVars false
set_option linter.unusedSimpArgs false
set_option linter.unusedVariables false
set_option linter.deprecated false
set_option maxRecDepth 100000
set_option maxHeartbeats 0
namespace Go.Proofs.YtinbeckdjhoeoaaGreatDoor
open Go.Lm
theorem lkrun2 : cutO (ks [0, 1, 395, 2, 432, 552, 394, 554]) (ks []) (lrun EB 20236 lkst2) = some lkst3 := by kernel_rfl
theorem lkrun3 : cutO (ks [0, 1, 575, 623, 647, 631, 611, 571, 577, 2, 576, 432, 624, 648, 552, 632, 772, 578, 594, 626, 554, 646, 574]) (ks [609]) (lrun EB 16706 lkst3) = some lkst4 := by kernel_rfl
end Go.Proofs.YtinbeckdjhoeoaaGreatDoor
