/- Pieces of the run, by the kernel. Conditions: none. -/
import Derived.Test.YtinbeckdjhoeoaaGreatDoorSta0
set_option linter.unusedSectionVars false
set_option linter.unusedSimpArgs false
set_option linter.unusedVariables false
set_option linter.deprecated false
set_option maxRecDepth 100000
set_option maxHeartbeats 0
namespace Go.Proofs.YtinbeckdjhoeoaaGreatDoor
open Go.Lm
theorem lkrun4 : cutO (ks [0, 1, 575, 1039, 623, 647, 631, 611, 571, 577, 1037, 2, 576, 1056, 912, 432, 624, 648, 552, 632, 772, 578, 1058, 914, 594, 626, 890, 646, 574]) (ks [609, 554]) (lrun EB 21096 lkst4) = some lkst5 := by kernel_rfl
theorem lkrun5 : cutO (ks [0, 1, 575, 1119, 1039, 1103, 623, 1135, 647, 1063, 1127, 1255, 631, 1143, 611, 1123, 1131, 571, 577, 1121, 1137, 1065, 1129, 1257, 1145, 1125, 1141, 1037, 2, 576, 1056, 1120, 912, 432, 624, 1136, 648, 552, 1064, 1128, 1256, 632, 1144, 772, 1132, 1260, 578, 1058, 1122, 1250, 914, 594, 626, 1130, 890, 646, 1142, 1134, 574]) (ks [609, 554]) (lrun EB 14678 lkst5) = some lkst6 := by kernel_rfl
end Go.Proofs.YtinbeckdjhoeoaaGreatDoor
