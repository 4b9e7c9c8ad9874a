/- The world in which the row's witness begins: what the program's own set-up leaves. Closed facts, by the kernel. Conditions: none. -/
import Derived.Test.YtinbeckdjhoeoaaGreatDoorRows
import Derived.ProofKit
import Derived.LaidMore
import Derived.OpenShut
import Derived.Stop.Joined
set_option linter.unusedVariables false
namespace Go.Proofs.YtinbeckdjhoeoaaGreatDoor
open Go
set_option maxRecDepth 100000
noncomputable abbrev wd (os : Os) : World := (World.doorLaid Tryz.prog 6 os).forCall (fun _ _ => 0) ⟨#[], #[], []⟩
theorem wdRef (os : Os) : (wd os).variablesRefB Tryz.prog = true := by kernel_rfl
theorem wdHeap (os : Os) : ((wd os).heap.toList.drop Tryz.prog.globals.size).take ((begin Tryz.prog (fun _ _ => 0) default).world.heap.size - Tryz.prog.globals.size) = (begin Tryz.prog (fun _ _ => 0) default).world.heap.toList.drop Tryz.prog.globals.size := by kernel_rfl
theorem wdOk (os : Os) : Input.okWideB Tryz.prog (wd os) 3 ⟨#[], #[], []⟩ = true := by kernel_rfl
theorem wdPre (os : Os) (H : Type) (enc : TypeId × Value → H) : Rows.lifeKnownSpec.preB enc Tryz.prog Tryz.f3 [] false (wd os).memory #[] 8 = true := by kernel_rfl
theorem wdSized (os : Os) (H : Type) (enc : TypeId × Value → H) : Rows.lifeKnownSpec.sizedB enc Tryz.prog Tryz.f3 false (wd os).memory #[] 8 = true := by kernel_rfl
end Go.Proofs.YtinbeckdjhoeoaaGreatDoor
