/- Closed facts of the row, each by the kernel. Conditions: none. -/
import Derived.Test.YtinbeckdjhoeoaaGreatDoorRows
import Derived.JoinedOf
import Derived.KernelRfl
set_option linter.unusedVariables false
set_option maxRecDepth 100000
namespace Go.Proofs.YtinbeckdjhoeoaaGreatDoor
open Go
theorem jk26 : (Tryz.prog.mayEnter) = true := by kernel_rfl
end Go.Proofs.YtinbeckdjhoeoaaGreatDoor
