/- Pieces of the run, by the kernel. Conditions: none. -/
import Derived.Test.YtinbeckdjhoeoaaGreatDoorSta1
import Derived.Test.YtinbeckdjhoeoaaGreatDoorSta2
set_option linter.unusedSectionVars false
set_option linter.unusedSimpArgs false
set_option linter.unusedVariables false
set_option linter.deprecated false
set_option maxRecDepth 100000
set_option maxHeartbeats 0
namespace Go.Proofs.YtinbeckdjhoeoaaGreatDoor
open Go.Lm
theorem lkrun10 : cutO (ks [0, 1, 2175, 575, 1695, 1119, 1039, 1551, 2191, 1103, 1743, 623, 2031, 647, 2183, 1671, 1063, 1767, 1751, 631, 611, 1891, 571, 2177, 577, 1697, 1121, 1745, 1713, 2033, 1065, 2009, 1765, 1037, 2189, 1693, 2, 576, 1056, 1696, 1120, 2192, 912, 432, 624, 648, 552, 1064, 632, 772, 2156, 578, 1730, 1058, 914, 594, 626, 1690, 890, 646, 2182, 1766, 1750, 2190, 1742, 2158, 1694, 574]) (ks [609, 1673, 1728, 554]) (lrun EB 15314 lkst10) = some lkst11 := by kernel_rfl
theorem lkrun11 : cutO (ks [0, 1, 2175, 575, 1695, 1119, 1039, 1551, 2191, 1103, 1743, 623, 2031, 647, 2183, 1671, 1063, 2215, 1767, 2199, 1751, 631, 611, 1891, 571, 2235, 2177, 577, 1697, 1121, 1745, 2225, 1713, 2033, 1065, 2009, 1765, 2197, 1037, 1693, 2237, 2, 576, 1056, 1696, 1120, 2192, 912, 432, 624, 648, 552, 1064, 632, 772, 2156, 2204, 578, 1730, 1058, 914, 594, 626, 1690, 890, 646, 2182, 1766, 2198, 1750, 1742, 2158, 1694, 574]) (ks [2191, 609, 1673, 2217, 1728, 554]) (lrun EB 17400 lkst11) = some lkst12 := by kernel_rfl
end Go.Proofs.YtinbeckdjhoeoaaGreatDoor
