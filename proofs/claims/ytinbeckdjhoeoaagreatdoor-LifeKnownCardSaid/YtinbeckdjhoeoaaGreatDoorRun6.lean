/- Pieces of the run, by the kernel. Conditions: none. -/
import Derived.Test.YtinbeckdjhoeoaaGreatDoorSta1
set_option linter.unusedSectionVars false
set_option linter.unusedSimpArgs false
set_option linter.unusedVariables false
set_option linter.deprecated false
set_option maxRecDepth 100000
set_option maxHeartbeats 0
namespace Go.Proofs.YtinbeckdjhoeoaaGreatDoor
open Go.Lm
theorem lkrun8 : cutO (ks [0, 1, 575, 1695, 1119, 1039, 1551, 1679, 1103, 1743, 623, 647, 1671, 1063, 1767, 1687, 1751, 631, 611, 1683, 1675, 571, 577, 1697, 1121, 1681, 1745, 1713, 1673, 1065, 1513, 1765, 1037, 1677, 1693, 2, 576, 1056, 1696, 1120, 1680, 912, 432, 624, 648, 552, 1064, 1688, 632, 772, 1684, 578, 1730, 1058, 1682, 914, 594, 626, 1514, 1690, 890, 646, 1766, 1686, 1750, 1678, 1742, 1694, 574]) (ks [609, 1728, 554]) (lrun EB 15054 lkst8) = some lkst9 := by kernel_rfl
theorem lkrun9 : cutO (ks [0, 1, 575, 1695, 1119, 1039, 1551, 1103, 1743, 623, 2031, 647, 1671, 1063, 1767, 1751, 631, 611, 1891, 2011, 571, 577, 1697, 1121, 1745, 1713, 2033, 1065, 2009, 1765, 1037, 1693, 2, 576, 1056, 1696, 1120, 912, 432, 624, 648, 552, 1064, 632, 772, 578, 1730, 1058, 914, 594, 626, 1690, 890, 646, 1766, 1750, 1742, 1694, 574]) (ks [609, 1673, 1728, 554]) (lrun EB 18841 lkst9) = some lkst10 := by kernel_rfl
end Go.Proofs.YtinbeckdjhoeoaaGreatDoor
