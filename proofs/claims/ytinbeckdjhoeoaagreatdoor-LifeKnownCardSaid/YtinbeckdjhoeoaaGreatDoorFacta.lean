/- Closed facts of the row, each by the kernel. Conditions: none. -/
import Derived.Test.YtinbeckdjhoeoaaGreatDoorRows
import Derived.JoinedOf
import Derived.KernelRfl
set_option linter.unusedVariables false
set_option maxRecDepth 100000
namespace Go.Proofs.YtinbeckdjhoeoaaGreatDoor
open Go
theorem jk1 : (Rows.lifeKnownRow.wf (OpenSpec.ofChange Rows.lifeKnownSpec)) = true := by kernel_rfl
theorem jk4 : (Tryz.f3.params.all (Tryz.prog.readableRec ·)) = true := by kernel_rfl
theorem jk5 : (namedTie Tryz.prog Rows.lifeKnownRow.named Rows.lifeKnownSpec.vars) = true := by kernel_rfl
theorem jk6 : (Rows.lifeKnownRow.stops == []) = true := by kernel_rfl
theorem jk7 : (Tryz.prog.stops == []) = true := by kernel_rfl
theorem jk8 : (Rows.lifeKnownRow.knobs == []) = true := by kernel_rfl
theorem jk9 : (Tryz.prog.stopKnobs == []) = true := by kernel_rfl
theorem jk14 : (Rows.lifeKnownRow.maps == (Tryz.f3.params.toList ++ Rows.lifeKnownSpec.plain.varTypes Tryz.prog).any (Tryz.prog.mapsRec ·)) = true := by kernel_rfl
theorem jk15 : (Rows.lifeKnownRow.ifaces == (Tryz.f3.params.toList ++ Rows.lifeKnownSpec.plain.varTypes Tryz.prog).any (Tryz.prog.ifacesRec ·)) = true := by kernel_rfl
theorem jk16 : (Rows.lifeKnownRow.mapsOut == Tryz.prog.mapsAmong Tryz.f3.resultTypes.toList) = true := by kernel_rfl
theorem jk17 : (Rows.lifeKnownRow.loops == (Tryz.f3.params.toList ++ Rows.lifeKnownSpec.plain.varTypes Tryz.prog).any (Tryz.prog.loopsFrom ·)) = true := by kernel_rfl
theorem jk18 : (Rows.lifeKnownRow.wideKeys == (Tryz.f3.params.toList ++ Rows.lifeKnownSpec.plain.varTypes Tryz.prog ++ Tryz.f3.resultTypes.toList).any (Tryz.prog.wideKeysFrom ·)) = true := by kernel_rfl
theorem jk19 : (Rows.lifeKnownSpec.vars.all (Tryz.prog.varReadable ·)) = true := by kernel_rfl
theorem jk20 : (Tryz.f3.resultTypes.all (fun t => Tryz.prog.readableRec t && decide (t < Tryz.prog.types.size))) = true := by kernel_rfl
theorem jk21 : (Rows.lifeKnownRow.ifacesOut == Tryz.f3.resultTypes.toList.any (Tryz.prog.ifacesRec ·)) = true := by kernel_rfl
theorem jk22 : (Rows.lifeKnownRow.loopsOut == Tryz.f3.resultTypes.toList.any (Tryz.prog.loopsFrom ·)) = true := by kernel_rfl
theorem jk24 : (Rows.lifeKnownRow.shortTexts.isNone) = true := by kernel_rfl
theorem jk25 : (Tryz.prog.stopsHeard) = true := by kernel_rfl
theorem jk27 : (Rows.lifeKnownRow.lifted == Tryz.prog.liftsFinal) = true := by kernel_rfl
theorem jk28 : (Tryz.prog.make == some Rows.lifeKnownRow.make) = true := by kernel_rfl
theorem jk29 : (Rows.lifeKnownRow.kinds == (if Rows.lifeKnownRow.domain.isEmpty then [] else Tryz.f3.params.toList.map fun t => match Tryz.prog.underlying t with | some (.int k) => some k | _ => none)) = true := by kernel_rfl
theorem jk30 : (Rows.lifeKnownRow.pinned == Rows.lifeKnownRow.pinnedBy) = true := by kernel_rfl
theorem jk31 : (Rows.lifeKnownRow.veiled == (Tryz.f3.params.toList ++ Rows.lifeKnownSpec.plain.varTypes Tryz.prog ++ Tryz.f3.resultTypes.toList).any (Tryz.prog.veiledRec ·)) = true := by kernel_rfl
theorem jk32 : (Rows.lifeKnownRow.veiledFits Tryz.prog Tryz.f3.params.toList (Tryz.f3.params.toList ++ Rows.lifeKnownSpec.plain.varTypes Tryz.prog ++ Tryz.f3.resultTypes.toList)) = true := by kernel_rfl
end Go.Proofs.YtinbeckdjhoeoaaGreatDoor
