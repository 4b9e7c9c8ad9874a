/- Pieces of the run, by the kernel. Conditions: none. -/
import Derived.Test.YtinbeckdjhoeoaaGreatDoorSta3
set_option linter.unusedSectionVars false
set_option linter.unusedSimpArgs false
set_option linter.unusedVariables false
set_option linter.deprecated false
set_option maxRecDepth 100000
set_option maxHeartbeats 0
namespace Go.Proofs.YtinbeckdjhoeoaaGreatDoor
open Go.Lm
theorem lkrun14 : cutO (ks [0, 1, 575, 1039, 1103, 623, 647, 1063, 631, 611, 571, 577, 1065, 1037, 2, 576, 1056, 912, 432, 624, 648, 552, 1064, 632, 772, 578, 1058, 914, 594, 626, 890, 646, 574]) (ks [609, 554]) (lrun EB 19491 lkst14) = some lkst15 := by kernel_rfl
theorem lkrun15 : doneO (lrun EB 12272 lkst15) = some (3, (vB true)) := by kernel_rfl
end Go.Proofs.YtinbeckdjhoeoaaGreatDoor
