/- Pieces of the run, by the kernel. Conditions: none. -/
import Derived.Test.YtinbeckdjhoeoaaGreatDoorSta2
import Derived.Test.YtinbeckdjhoeoaaGreatDoorSta3
set_option linter.unusedSectionVars false
set_option linter.unusedSimpArgs false
set_option linter.unusedVariables false
set_option linter.deprecated false
set_option maxRecDepth 100000
set_option maxHeartbeats 0
namespace Go.Proofs.YtinbeckdjhoeoaaGreatDoor
open Go.Lm
theorem lkrun12 : cutO (ks [0, 1, 2175, 575, 1695, 1119, 1039, 1551, 1103, 1743, 623, 2031, 647, 2183, 1671, 1063, 1767, 1751, 631, 611, 1891, 571, 2177, 577, 1697, 1121, 1745, 1713, 2033, 1065, 2009, 1765, 1037, 1693, 2, 576, 2240, 1056, 1696, 1120, 2400, 912, 432, 624, 648, 552, 1064, 632, 772, 2404, 2156, 2396, 578, 1730, 1058, 914, 594, 626, 1690, 890, 646, 2182, 2406, 1766, 1750, 1742, 2158, 1694, 574]) (ks [609, 1673, 1728, 554, 2398]) (lrun EB 19535 lkst12) = some lkst13 := by kernel_rfl
theorem lkrun13 : cutO (ks [0, 1, 2175, 2431, 575, 1695, 1119, 1039, 1551, 1103, 1743, 623, 2031, 647, 2183, 1671, 1063, 2471, 1767, 1751, 631, 2435, 611, 1891, 2483, 2507, 571, 2491, 2177, 577, 1697, 1121, 1745, 1713, 2033, 1065, 2009, 2437, 1765, 1037, 1693, 2, 576, 2240, 1056, 1696, 1120, 2400, 912, 432, 624, 2416, 648, 552, 1064, 2408, 632, 772, 2436, 2404, 2484, 2508, 2156, 2412, 2396, 2492, 2434, 578, 1730, 1058, 914, 594, 626, 2418, 2506, 1690, 890, 646, 2182, 2438, 2406, 1766, 2454, 1750, 2486, 1742, 2158, 1694, 574]) (ks [609, 1673, 2469, 1728, 554, 2410, 2398]) (lrun EB 16248 lkst13) = some lkst14 := by kernel_rfl
end Go.Proofs.YtinbeckdjhoeoaaGreatDoor
