/- A bound on the number of the functions that the program names. Conditions: none. -/
import Derived.Test.YtinbeckdjhoeoaaGreatDoorCloa
set_option linter.unusedSectionVars false
set_option linter.unusedSimpArgs false
set_option linter.unusedVariables false
set_option maxRecDepth 100000
set_option maxHeartbeats 0
namespace Go.Proofs.YtinbeckdjhoeoaaGreatDoor
open Go Go.Lm
theorem jN : Nat.ble 1428 (1 + (Tryz.prog.funcs.toList.map fun g => (Tryz.prog.leadsTo g).length + 1).sum) = true := by kernel_rfl
end Go.Proofs.YtinbeckdjhoeoaaGreatDoor
