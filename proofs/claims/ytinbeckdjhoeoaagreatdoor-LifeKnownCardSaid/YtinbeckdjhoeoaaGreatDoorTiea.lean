/- The variable that LifeKnown's row lists, unicode.properties, is laid by the program's text as the row says: seven closed facts, each by the kernel, each in a declaration of its own. Conditions: none. -/
import Derived.Test.YtinbeckdjhoeoaaGreatDoorRows
import Derived.LaidByTextLater
import Derived.LaidOnce
import Derived.SevenTiedAt
namespace Go.Proofs.YtinbeckdjhoeoaaGreatDoor
open Go
noncomputable def laidL : List (String × DataW Unit) := [("unicode.properties", Rows.laid_unicode_properties)]
theorem tieA1 : Tryz.prog.worded (varsWordLater true) = true := by kernel_rfl
theorem tieA2 : Tryz.prog.worded (varsWordLater !true) = false := by kernel_rfl
theorem tieA3 : Tryz.prog.worded rootWordLater = true := by kernel_rfl
theorem tieA4 : laidL.map (fun x => Tryz.prog.kindOfLater x.1) = [LaidKind.data].map some := by kernel_rfl
theorem tieA5 : (Tryz.prog.funcNamed "gosem.cut.vars").isSome = true := by kernel_rfl
theorem tieA6 : varsNamedLaterB Tryz.prog (varsId Tryz.prog) laidL = true := by kernel_rfl
end Go.Proofs.YtinbeckdjhoeoaaGreatDoor
