/- The law starts no goroutine. Conditions: none. -/
import Derived.Test.YtinbeckdjhoeoaaGreatDoorClod
import GoSem.ClaimGoes
import Derived.KernelRfl
set_option linter.unusedVariables false
set_option maxRecDepth 100000
namespace Go.Proofs.YtinbeckdjhoeoaaGreatDoor
open Go
theorem goesA : (jL.any fun g => (Tryz.prog.funcs[g]?).any Func.goes) = false := by kernel_rfl
theorem goesB : Tryz.prog.funcs.any Func.goes = false := by kernel_rfl
theorem goes3 : Tryz.prog.goes 3 = false := by
  unfold Program.goes
  rw [jclosure, goesA, goesB]
  simp
end Go.Proofs.YtinbeckdjhoeoaaGreatDoor
