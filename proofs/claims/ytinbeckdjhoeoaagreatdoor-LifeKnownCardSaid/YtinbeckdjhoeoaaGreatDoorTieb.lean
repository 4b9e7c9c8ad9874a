/- The variable that LifeKnown's row lists, unicode.properties, reads behind the program's own set-up as the row says. Conditions: none. -/
import Derived.Test.YtinbeckdjhoeoaaGreatDoorTiea
namespace Go.Proofs.YtinbeckdjhoeoaaGreatDoor
open Go
set_option maxRecDepth 100000
theorem tieA7 (os : Os) (tape : Tape) : doorLeaves Tryz.prog 6 8 512 laidL os tape = some (laidL.filter fun x => x.2.handleName?.isNone, (funcsListed laidL).map (·.2.funcsOut)) := by kernel_rfl
theorem tieAll : Tryz.prog.laidByTextLater [("unicode.properties", Rows.laid_unicode_properties)] [.data] true :=
  Program.laidByTextLater_by_one 6 8 512 tieA1 tieA2 tieA3 tieA4 tieA5 tieA6 tieA7
theorem tieSafe : Tryz.pinned.checked.prog.headLifts.contains "ownunsafe" = false := by kernel_rfl
theorem known_row_tie : Rows.lifeKnownRow.laidByTextAt .later Tryz.pinned [.data] true :=
  OpenClaim.laidByTextAt_later rfl rfl tieAll tieSafe
end Go.Proofs.YtinbeckdjhoeoaaGreatDoor
