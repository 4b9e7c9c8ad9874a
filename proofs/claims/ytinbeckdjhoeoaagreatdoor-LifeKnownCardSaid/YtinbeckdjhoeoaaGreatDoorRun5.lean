/- Pieces of the run, by the kernel. Conditions: none. -/
import Derived.Test.YtinbeckdjhoeoaaGreatDoorSta0
import Derived.Test.YtinbeckdjhoeoaaGreatDoorSta1
set_option linter.unusedSectionVars false
set_option linter.unusedSimpArgs false
set_option linter.unusedVariables false
set_option linter.deprecated false
set_option maxRecDepth 100000
set_option maxHeartbeats 0
namespace Go.Proofs.YtinbeckdjhoeoaaGreatDoor
open Go.Lm
theorem lkrun6 : cutO (ks [0, 1, 575, 1119, 1039, 1103, 623, 647, 1063, 631, 611, 571, 577, 1121, 1065, 1037, 2, 576, 1056, 1120, 912, 432, 624, 648, 552, 1064, 632, 772, 578, 1058, 914, 594, 626, 890, 646, 574]) (ks [609, 554]) (lrun EB 20628 lkst6) = some lkst7 := by kernel_rfl
theorem lkrun7 : cutO (ks [0, 1, 1535, 575, 1119, 1039, 1551, 1103, 623, 647, 1063, 1559, 631, 611, 1523, 571, 577, 1121, 1553, 1065, 1513, 1529, 1557, 1037, 2, 576, 1056, 1120, 1552, 912, 432, 624, 648, 552, 1064, 1560, 632, 1528, 772, 1556, 1548, 578, 1058, 914, 594, 626, 1522, 1546, 1514, 1562, 890, 1530, 646, 1558, 1550, 574]) (ks [609, 1522, 554]) (lrun EB 16080 lkst7) = some lkst8 := by kernel_rfl
end Go.Proofs.YtinbeckdjhoeoaaGreatDoor
